import PyProof.Rows.All
import Wide.All
import OpenK.AllK
import Wide.FinOn
import Lean
import PySem.Challenge.RW_uf010003_05
set_option compiler.extract_closed false

section
open PySem PySem.W PyProof.Rows
set_option Elab.async false
set_option maxRecDepth 100000
namespace Mine

inductive D where
  | none
  | bool (b : Bool)
  | int (i : Int)
  | str (x : Str)
  | tup (l : List D)

mutual
inductive Im (h : Heap) : Value → D → Prop
  | none : Im h .none .none
  | bool (b) : Im h (.bool b) (.bool b)
  | int (i t) : Im h (.int i t) (.int i)
  | str (x t) : Im h (.str x t) (.str x)
  | tup {a o vs n l} : h.get? a = some o → o.cls = .type "tuple" → o.data = .seq vs n → Ims h vs.toList l → Im h (.ref a) (.tup l)
inductive Ims (h : Heap) : List Value → List D → Prop
  | nil : Ims h [] []
  | cons {v vs d ds} : Im h v d → Ims h vs ds → Ims h (v :: vs) (d :: ds)
end

noncomputable def Grow (h h' : Heap) : Prop := ∀ a o vs n, h.get? a = some o → o.cls = .type "tuple" → o.data = .seq vs n → h'.get? a = some o

mutual
theorem Im.grow {h h' : Heap} (g : Grow h h') : ∀ {v d}, Im h v d → Im h' v d
  | _, _, .none => .none
  | _, _, .bool b => .bool b
  | _, _, .int i t => .int i t
  | _, _, .str x t => .str x t
  | _, _, .tup e c dt r => .tup (g _ _ _ _ e c dt) c dt (r.grow g)
theorem Ims.grow {h h' : Heap} (g : Grow h h') : ∀ {vs ds}, Ims h vs ds → Ims h' vs ds
  | _, _, .nil => .nil
  | _, _, .cons a r => .cons (a.grow g) (r.grow g)
end

theorem Ims.length {h : Heap} : ∀ {vs ds}, Ims h vs ds → vs.length = ds.length
  | _, _, .nil => rfl
  | _, _, .cons _ r => by simp [r.length]
theorem Ims.append {h : Heap} : ∀ {vs ds us es}, Ims h vs ds → Ims h us es → Ims h (vs ++ us) (ds ++ es)
  := by
  intro vs
  induction vs with
  | nil => intro ds us es j k; cases j; exact k
  | cons v vs ih => intro ds us es j k; cases j with | cons a r => exact .cons a (ih r k)
theorem Ims.get {h : Heap} : ∀ {vs ds}, Ims h vs ds → ∀ {i : Nat} {d}, ds[i]? = some d → ∃ v, vs[i]? = some v ∧ Im h v d
  := by
  intro vs
  induction vs with
  | nil => intro ds k i d e; cases k; simp at e
  | cons v vs ih =>
    intro ds k i d e
    cases k with
    | cons a r => cases i with
      | zero => simp at e; subst e; exact ⟨_, rfl, a⟩
      | succ i => simpa using ih r (by simpa using e)
theorem Ims.drop {h : Heap} : ∀ {vs ds}, Ims h vs ds → ∀ n, Ims h (vs.drop n) (ds.drop n)
  | _, _, k, 0 => k
  | _, _, .nil, n + 1 => .nil
  | _, _, .cons _ r, n + 1 => r.drop n
theorem Ims.take {h : Heap} : ∀ {vs ds}, Ims h vs ds → ∀ n, Ims h (vs.take n) (ds.take n)
  | _, _, k, 0 => .nil
  | _, _, .nil, n + 1 => .nil
  | _, _, .cons a r, n + 1 => .cons a (r.take n)

inductive Cont where
  | lst (l : List D)
  | dct (l : List (Str × D))
  | rng (a b : Int)
  | exc (c : Str)

structure Bs where
  prog : Program
  w : World
  hB : Heap
  mg : Str → Option Value
  mb : Str → Option Value
  g : hB.Ns mainGlobals mg
  b : hB.Ns builtinsNs mb
  bu : ∀ x : Str, x ≠ "__name__" → mb x = bootBuiltins x
  lim : hB.NoLimit
  quiet : Bool


inductive KVs (h : Heap) : List (Str × Value) → List (Str × D) → Prop
  | nil : KVs h [] []
  | cons {k v d kvs l} : Im h v d → KVs h kvs l → KVs h ((k, v) :: kvs) ((k, d) :: l)

theorem KVs.grow {h h' : Heap} (g : Grow h h') : ∀ {kvs l}, KVs h kvs l → KVs h' kvs l
  | _, _, .nil => .nil
  | _, _, .cons a r => .cons (a.grow g) (r.grow g)

noncomputable def ContAt (B : Bs) (h : Heap) (a : Addr) : Cont → Prop
  | .lst l => ∃ o vs n, h.get? a = some o ∧ (o.cls = .type "list" ∧ o.dict = none) ∧ o.data = .seq vs n ∧ Ims h vs.toList l
  | .dct l => (a == sysModules) = false ∧ ∃ kvs, h.DictOf (strKind B.prog B.w) a kvs ∧ KVs h kvs l
  | .rng x y => ∃ t u v, IsRange h a x y 1 t u v
  | .exc c => ∃ o C vs, h.get? a = some o ∧ B.mg c = some (.ref C) ∧ o.cls = .ref C ∧ o.data = .fields vs

inductive Md where
  | fz
  | fr
  | ow (i : Nat)
inductive AV where
  | im (d : D)
  | ct (m : Md) (c : Cont)
inductive Sl where
  | im (d : D)
  | fz (c : Cont)
  | own (c : Cont) (m : Option Addr := none)

structure KpW (B : Bs) (W : Addr → Prop) (s s' : Shared) : Prop where
  keep : ∀ b o, s.heap.get? b = some o → ¬ W b → (o.cls ≠ .type "frame" ∨ (B.hB.get? b).isSome = true) → s'.heap.get? b = some o
  data : ∀ b o, s.heap.get? b = some o → ¬ W b → ∃ sl, s'.heap.get? b = some { o with slots := sl }
  tups : Grow s.heap s'.heap
  live : ∀ b o, s.heap.get? b = some o → ∃ o', s'.heap.get? b = some o' ∧ ((∀ vs, o.data ≠ .fields vs) → ∀ vs, o'.data ≠ .fields vs) ∧
    ((∃ es ep, o.data = .dict es ep) → o'.cls = o.cls ∧ ∃ es ep, o'.data = .dict es ep)
  gens : s'.gens = s.gens
  os : s'.os = s.os
noncomputable abbrev Kp (B : Bs) (s s' : Shared) : Prop := KpW B (fun _ => False) s s'

theorem KpW.refl {B W} (s : Shared) : KpW B W s s := ⟨fun _ _ e _ _ => e, fun _ o e _ => ⟨o.slots, e⟩, fun _ _ _ _ e _ _ => e, fun _ o e => ⟨o, e, fun x => x, fun x => ⟨rfl, x⟩⟩, rfl, rfl⟩
theorem Kp.of {B : Bs} {s : Shared} {h' : Heap} {t : Nat} (k : ∀ b o, s.heap.get? b = some o → h'.get? b = some o) : Kp B s { s with heap := h', toks := t } :=
  ⟨fun b o e _ _ => k b o e, fun b o e _ => ⟨o.slots, k b o e⟩, fun b o _ _ e _ _ => k b o e, fun b o e => ⟨o, k b o e, fun x => x, fun x => ⟨rfl, x⟩⟩, rfl, rfl⟩
theorem Kp.toks {B : Bs} {s : Shared} {t : Nat} : Kp B s { s with toks := t } := Kp.of (h' := s.heap) fun _ _ e => e
theorem KpW.mono {B W W'} {s s' : Shared} (k : KpW B W s s') (h : ∀ b, W b → W' b) : KpW B W' s s' :=
  ⟨fun b o e nw => k.keep b o e (fun x => nw (h b x)), fun b o e nw => k.data b o e (fun x => nw (h b x)), k.tups, k.live, k.gens, k.os⟩
theorem Kp.toW {B W} {s s' : Shared} (k : Kp B s s') : KpW B W s s' := k.mono fun _ x => x.elim
theorem KpW.trans {B W W'} {s s' s'' : Shared} (k : KpW B W s s') (k' : KpW B W' s' s'') (h : ∀ b, W' b → W b ∨ s.heap.get? b = none) : KpW B W s s'' := by
  refine ⟨fun b o e nw hf => ?_, fun b o e nw => ?_, fun b o vs n e c d => k'.tups b o vs n (k.tups b o vs n e c d) c d, fun b o e => ?_, k'.gens.trans k.gens, k'.os.trans k.os⟩
  · refine k'.keep b o (k.keep b o e nw hf) (fun x => ?_) hf
    rcases h b x with y | y
    · exact nw y
    · rw [y] at e; cases e
  · obtain ⟨sl, e1⟩ := k.data b o e nw
    obtain ⟨sl', e2⟩ := k'.data b _ e1 (fun x => by
      rcases h b x with y | y
      · exact nw y
      · rw [y] at e; cases e)
    exact ⟨sl', e2⟩
  · obtain ⟨o1, e1, d1, c1⟩ := k.live b o e
    obtain ⟨o2, e2, d2, c2⟩ := k'.live b o1 e1
    exact ⟨o2, e2, fun x => d2 (d1 x), fun x => ⟨((c2 (c1 x).2).1).trans (c1 x).1, (c2 (c1 x).2).2⟩⟩
theorem Kp.trans {B} {s s' s'' : Shared} (k : Kp B s s') (k' : Kp B s' s'') : Kp B s s'' := KpW.trans k k' fun _ x => x.elim
theorem Kp.fresh {B} {s s' : Shared} (k : Kp B s s') {a : Addr} (h : s'.heap.get? a = none) : s.heap.get? a = none := by
  cases e : s.heap.get? a with
  | none => rfl
  | some o => obtain ⟨o', e', _⟩ := k.live a o e; rw [h] at e'; cases e'

theorem ContAt.of_same {B : Bs} {h h' : Heap} {a : Addr} {c : Cont} (x : ContAt B h a c) (e : ∀ o, h.get? a = some o → o.cls ≠ .type "frame" → h'.get? a = some o) (g : Grow h h') : ContAt B h' a c := by
  cases c with
  | lst l =>
    obtain ⟨o, vs, n, ho, hc, hd, hi⟩ := x
    exact ⟨o, vs, n, e o ho (by rw [hc.1]; decide), hc, hd, hi.grow g⟩
  | dct l =>
    obtain ⟨hs, kvs, ⟨o, es, ep, ho, hc, r⟩, hk⟩ := x
    exact ⟨hs, kvs, ⟨o, es, ep, e o ho (by rw [hc.1]; decide), hc, r⟩, hk.grow g⟩
  | rng x y =>
    obtain ⟨t, u, v, ho⟩ := x
    exact ⟨t, u, v, e _ ho (by show Value.type "range" ≠ _; decide)⟩
  | exc c =>
    obtain ⟨o, C, vs, ho, hm, hc, hd⟩ := x
    exact ⟨o, C, vs, e o ho (by rw [hc]; intro q; cases q), hm, hc, hd⟩
theorem ContAt.kp {B : Bs} {W} {s s' : Shared} {a : Addr} {c : Cont} (k : KpW B W s s') (nw : ¬ W a) (x : ContAt B s.heap a c) : ContAt B s'.heap a c :=
  x.of_same (fun o e f => k.keep a o e nw (.inl f)) k.tups
theorem ContAt.exists {B : Bs} {h : Heap} {a : Addr} {c : Cont} (x : ContAt B h a c) : ∃ o, h.get? a = some o := by
  cases c with
  | lst l => (obtain ⟨o, _, _, ho, _⟩ := x; exact ⟨o, ho⟩)
  | dct l => (obtain ⟨_, _, ⟨o, _, _, ho, _⟩, _⟩ := x; exact ⟨o, ho⟩)
  | rng _ _ => (obtain ⟨_, _, _, ho⟩ := x; exact ⟨_, ho⟩)
  | exc _ => (obtain ⟨o, _, _, ho, _⟩ := x; exact ⟨o, ho⟩)

inductive Kd where
  | loc
  | cel
  | fre
  deriving DecidableEq
noncomputable def Kd.kind : Kd → NameKind
  | .loc => .local
  | .cel => .cell
  | .fre => .free
noncomputable def fiOk (sc : Scope) (vars : List (Str × Kd)) : Bool :=
  decide (sc.kind = .function) && decide (vars.map (·.1)).Nodup && vars.all fun x => decide (sc.names.lookup x.1 = some x.2.kind) && !(x.1 == ("__debug__" : Str)) && !(x.1 == ("__classdict__" : Str))
structure Fi where
  scope : Scope
  vars : List (Str × Kd)
  own : Nat
  ok : fiOk scope vars = true

theorem Fi.fn (F : Fi) : F.scope.kind = .function := by
  have := F.ok; simp only [fiOk, Bool.and_eq_true, decide_eq_true_eq] at this; exact this.1.1
theorem Fi.nodup (F : Fi) : (F.vars.map (·.1)).Nodup := by
  have := F.ok; simp only [fiOk, Bool.and_eq_true, decide_eq_true_eq] at this; exact this.1.2
theorem Fi.at (F : Fi) {i : Nat} {x : Str} {k : Kd} (h : F.vars[i]? = some (x, k)) : F.scope.names.lookup x = some k.kind ∧ (x == ("__debug__" : Str)) = false ∧ (x == ("__classdict__" : Str)) = false := by
  have := F.ok
  simp only [fiOk, Bool.and_eq_true, List.all_eq_true] at this
  have := this.2 _ (List.mem_of_getElem? h)
  simpa [and_assoc] using this
theorem Fi.inj (F : Fi) {i j : Nat} {x : Str} {k k' : Kd} (h : F.vars[i]? = some (x, k)) (h' : F.vars[j]? = some (x, k')) : i = j := by
  have hi : i < (F.vars.map (·.1)).length := by rw [List.length_map]; exact (List.getElem?_eq_some_iff.mp h).1
  refine (List.getElem?_inj hi F.nodup).mp ?_
  rw [List.getElem?_map, List.getElem?_map, h, h']; rfl

noncomputable def VarAt (env : Env) (h : Heap) (x : Str) : Kd → Value → Prop
  | .loc, v => ∃ m, h.Ns env.locals m ∧ m x = some v
  | _, v => ∃ c, env.cells.lookup x = some c ∧ h.IsCell c (some v)

noncomputable def Priv (env : Env) (a : Addr) : Prop := a = env.locals ∨ (env.locals < a ∧ a ∈ env.cells.map (·.2))
noncomputable def FW (env : Env) (oa : Nat → Option Addr) (a : Addr) : Prop := Priv env a ∨ ∃ i, oa i = some a

noncomputable def SlotOk (B : Bs) (env : Env) (oa : Nat → Option Addr) (h : Heap) (i : Nat) (x : Str) (k : Kd) : Sl → Prop
  | .im d => ∃ v, VarAt env h x k v ∧ Im h v d
  | .fz c => ∃ a, VarAt env h x k (.ref a) ∧ ContAt B h a c ∧ ¬ FW env oa a
  | .own c m => ∃ a, VarAt env h x k (.ref a) ∧ ContAt B h a c ∧ oa i = some a ∧ ∀ b, m = some b → b = a

structure Rp (B : Bs) (F : Fi) (env : Env) (oa : Nat → Option Addr) (ρ : List (Option Sl)) (s : Shared) : Prop where
  base : ∀ b o, B.hB.get? b = some o → s.heap.get? b = some o
  scope : env.scope = F.scope
  globals : env.globals = mainGlobals
  builtins : env.builtins = builtinsNs
  ns : ∃ m, s.heap.Ns env.locals m
  cells : ∀ (i : Nat) x k, F.vars[i]? = some (x, k) → k ≠ Kd.loc → ∃ c v, env.cells.lookup x = some c ∧ s.heap.IsCell c v ∧ (i < F.own → env.locals < c)
  apart : ∀ x y c, env.cells.lookup x = some c → env.cells.lookup y = some c → x = y
  locCell : ∀ x c, (x, c) ∈ env.cells → c ≠ env.locals
  cellsLive : ∀ x c, (x, c) ∈ env.cells → ∃ v, s.heap.IsCell c v
  privNew : ∀ a, a = env.locals ∨ (∃ x, (x, a) ∈ env.cells) → B.hB.get? a = none
  slots : ∀ (i : Nat) x k sl, F.vars[i]? = some (x, k) → ρ[i]? = some (some sl) → SlotOk B env oa s.heap i x k sl
  oinj : ∀ i j a, oa i = some a → oa j = some a → i = j
  opriv : ∀ i a, oa i = some a → ¬ Priv env a ∧ B.hB.get? a = none ∧ ∃ o, s.heap.get? a = some o


theorem VarAt.keep {env : Env} {h h' : Heap} {x : Str} {k : Kd} {v : Value} (e : ∀ b o, h.get? b = some o → ∃ sl, h'.get? b = some { o with slots := sl }) (y : VarAt env h x k v) : VarAt env h' x k v := by
  have hc : ∀ c v, h.IsCell c v → h'.IsCell c v := fun c v hz1 => by obtain ⟨o, ho, hd⟩ := hz1; (obtain ⟨sl, ho'⟩ := e c o ho; exact ⟨_, ho', hd⟩)
  cases k with
  | loc =>
    obtain ⟨m, hn, hm⟩ := y
    obtain ⟨o, es, ep, ho, r⟩ := hn
    obtain ⟨sl, ho'⟩ := e _ o ho
    exact ⟨m, ⟨_, es, ep, ho', r⟩, hm⟩
  | cel => (obtain ⟨c, h1, h2⟩ := y; exact ⟨c, h1, hc _ _ h2⟩)
  | fre => (obtain ⟨c, h1, h2⟩ := y; exact ⟨c, h1, hc _ _ h2⟩)

theorem SlotOk.kp {B : Bs} {env oa i x k} {s s' : Shared} {sl : Sl} (q : Kp B s s') (y : SlotOk B env oa s.heap i x k sl) : SlotOk B env oa s'.heap i x k sl := by
  have e : ∀ b o, s.heap.get? b = some o → ∃ sl, s'.heap.get? b = some { o with slots := sl } := fun b o h => q.data b o h (fun x => x)
  cases sl with
  | im d => (obtain ⟨v, h1, h2⟩ := y; exact ⟨v, h1.keep e, h2.grow q.tups⟩)
  | fz c => (obtain ⟨a, h1, h2, h3⟩ := y; exact ⟨a, h1.keep e, h2.kp q (fun x => x), h3⟩)
  | own c => (obtain ⟨a, h1, h2, h3⟩ := y; exact ⟨a, h1.keep e, h2.kp q (fun x => x), h3⟩)

theorem Ns.slots {h h' : Heap} {L : Addr} {m} (e : ∀ b o, h.get? b = some o → ∃ sl, h'.get? b = some { o with slots := sl }) (y : h.Ns L m) : h'.Ns L m := by
  obtain ⟨o, es, ep, ho, r⟩ := y
  obtain ⟨sl, ho'⟩ := e _ o ho
  exact ⟨_, es, ep, ho', r⟩

theorem Rp.kp {B F env oa ρ} {s s' : Shared} (R : Rp B F env oa ρ s) (k : Kp B s s') : Rp B F env oa ρ s' := by
  have e : ∀ b o, s.heap.get? b = some o → ∃ sl, s'.heap.get? b = some { o with slots := sl } := fun b o h => k.data b o h (fun x => x)
  refine ⟨fun b o h => k.keep b o (R.base b o h) (fun x => x) (.inr (by rw [h]; rfl)), R.scope, R.globals, R.builtins, ?_, ?_, R.apart, R.locCell, fun x c h => ?_, R.privNew, fun i x kd sl h1 h2 => (R.slots i x kd sl h1 h2).kp k, R.oinj, ?_⟩
  · (obtain ⟨m, h⟩ := R.ns; exact ⟨m, Ns.slots e h⟩)
  · intro i x kd h1 h2
    obtain ⟨c, v, h3, ⟨o, ho, hd⟩, hw⟩ := R.cells i x kd h1 h2
    obtain ⟨sl, ho'⟩ := e c o ho
    exact ⟨c, v, h3, ⟨_, ho', hd⟩, hw⟩
  · obtain ⟨v, o, ho, hd⟩ := R.cellsLive x c h
    obtain ⟨sl, ho'⟩ := e c o ho
    exact ⟨v, _, ho', hd⟩
  · intro i a h
    obtain ⟨h1, h2, o, ho⟩ := R.opriv i a h
    exact ⟨h1, h2, by obtain ⟨o', ho', _⟩ := k.live a o ho; exact ⟨o', ho'⟩⟩

structure Ar (B : Bs) (A : Around) (n : Nat) (s : Shared) : Prop where
  depth : A.depth + n < recursionLimit
  units : A.units + 10 * n < cLine
  handled : B.quiet = true → A.handled = none
  frames : ∃ l, A.frames = some l ∧ s.heap.FunFrames B.hB l ∧ ∀ L ∈ l.filterMap (·.frame), ∃ o es ep, s.heap.get? L = some o ∧ o.cls = .type "frame" ∧ o.data = .dict es ep
theorem FunFrames.kp {B : Bs} {W} {s s' : Shared} (k : KpW B W s s') : ∀ {l : List Env}, s.heap.FunFrames B.hB l → s'.heap.FunFrames B.hB l
  | [], _ => trivial
  | env :: rest, ⟨hk, ⟨L, o, hf, hn, ho, hd⟩, hr⟩ => by
    obtain ⟨o', ho', hd', _⟩ := k.live L o ho
    exact ⟨hk, ⟨L, o', hf, hn, ho', hd' hd⟩, FunFrames.kp k hr⟩
theorem Ar.kp {B A n} {s s' : Shared} {W} (a : Ar B A n s) (k : KpW B W s s') : Ar B A n s' :=
  ⟨a.depth, a.units, a.handled, by obtain ⟨l, h1, h2, h3⟩ := a.frames; exact ⟨l, h1, FunFrames.kp k h2, fun L hL => by
    obtain ⟨o, es, ep, ho, hc, hd⟩ := h3 L hL
    obtain ⟨o', ho', _, h4⟩ := k.live L o ho
    obtain ⟨hc', es', ep', hd'⟩ := h4 ⟨es, ep, hd⟩
    exact ⟨o', es', ep', ho', hc'.trans hc, hd'⟩⟩⟩
theorem Ar.le {B A n m} {s : Shared} (a : Ar B A n s) (h : m ≤ n) : Ar B A m s :=
  ⟨by have := a.depth; omega, by have := a.units; omega, a.handled, a.frames⟩
theorem Ar.un {B A n} {s : Shared} (a : Ar B A n s) : A.units < cLine := by have := a.units; omega

noncomputable def Fly (B : Bs) (s : Shared) (cls : Value) (a : Addr) (h : Heap) : Prop :=
  s.heap.get? a = none ∧ ∃ o vs, h.get? a = some o ∧ o.cls = cls ∧ o.data = .fields vs ∧ 5 ≤ vs.size ∧
    (vs[1]? = some .none ∨ ∃ T oT ts, vs[1]? = some (.ref T) ∧ T ≠ a ∧ s.heap.get? T = none ∧ h.get? T = some oT ∧ oT.cls = .type "traceback" ∧ oT.data = .fields ts ∧ 4 ≤ ts.size)
noncomputable def EPW (B : Bs) (W : Addr → Prop) (X : Str → Prop) (s : Shared) (e : Value) (s' : Shared) : Prop :=
  ∃ c cv a, X c ∧ B.mg c = some cv ∧ e = .ref a ∧ KpW B W s s' ∧ Fly B s cv a s'.heap
noncomputable abbrev EP (B : Bs) (X : Str → Prop) (s : Shared) (e : Value) (s' : Shared) : Prop := EPW B (fun _ => False) X s e s'

theorem Fly.back {B : Bs} {W} {s s1 : Shared} {cls a h} (k : KpW B W s s1) (f : Fly B s1 cls a h) : Fly B s cls a h := by
  have fr : ∀ b, s1.heap.get? b = none → s.heap.get? b = none := fun b hb => by
    cases e : s.heap.get? b with
    | none => rfl
    | some o => obtain ⟨o', e', _⟩ := k.live b o e; rw [hb] at e'; cases e'
  obtain ⟨h1, o, vs, h2, h3, h4, h5, h6⟩ := f
  exact ⟨fr _ h1, o, vs, h2, h3, h4, h5, h6.imp (fun x => x) fun hz2 => by obtain ⟨T, oT, ts, q1, q2, q3, q⟩ := hz2; exact ⟨T, oT, ts, q1, q2, fr _ q3, q⟩⟩
theorem EP.back {B X} {s s1 : Shared} {e s'} (k : Kp B s s1) (x : EP B X s1 e s') : EP B X s e s' :=
  by obtain ⟨c, cv, a, h1, h2, h3, h4, h5⟩ := x; exact ⟨c, cv, a, h1, h2, h3, Kp.trans k h4, h5.back k⟩
theorem EP.toW {B W X} {s : Shared} {e s'} (x : EP B X s e s') : EPW B W X s e s' :=
  by obtain ⟨c, cv, a, h1, h2, h3, h4, h5⟩ := x; exact ⟨c, cv, a, h1, h2, h3, Kp.toW h4, h5⟩

noncomputable def VR (B : Bs) (env : Env) (oa : Nat → Option Addr) (s s' : Shared) (v : Value) : AV → Prop
  | .im d => Im s'.heap v d
  | .ct .fz c => ∃ a, v = .ref a ∧ ContAt B s'.heap a c ∧ ¬ FW env oa a
  | .ct .fr c => ∃ a, v = .ref a ∧ ContAt B s'.heap a c ∧ s.heap.get? a = none
  | .ct (.ow i) c => ∃ a, v = .ref a ∧ ContAt B s'.heap a c ∧ oa i = some a
theorem VR.kp {B env oa} {s s' s'' : Shared} {v : Value} {r : AV} (x : VR B env oa s s' v r) (k : Kp B s' s'') : VR B env oa s s'' v r := by
  cases r with
  | im d => exact Im.grow k.tups x
  | ct m c => cases m with
    | fz => (obtain ⟨a, h1, h2, h3⟩ := x; exact ⟨a, h1, h2.kp k (fun x => x), h3⟩)
    | fr => (obtain ⟨a, h1, h2, h3⟩ := x; exact ⟨a, h1, h2.kp k (fun x => x), h3⟩)
    | ow i => (obtain ⟨a, h1, h2, h3⟩ := x; exact ⟨a, h1, h2.kp k (fun x => x), h3⟩)
theorem VR.back {B env oa} {s s1 s' : Shared} {v : Value} {r : AV} (k : Kp B s s1) (x : VR B env oa s1 s' v r) : VR B env oa s s' v r := by
  cases r with
  | im d => exact x
  | ct m c => cases m with
    | fz => exact x
    | fr => (obtain ⟨a, h1, h2, h3⟩ := x; exact ⟨a, h1, h2, k.fresh h3⟩)
    | ow i => exact x
noncomputable def AV.c? : AV → Option Cont
  | .im _ => none
  | .ct _ c => some c
theorem VR.cont {B env oa} {s s' : Shared} {v : Value} {m : Md} {c : Cont} (x : VR B env oa s s' v (.ct m c)) : ∃ a, v = .ref a ∧ ContAt B s'.heap a c := by
  cases m with
  | fz => (obtain ⟨a, h1, h2, _⟩ := x; exact ⟨a, h1, h2⟩)
  | fr => (obtain ⟨a, h1, h2, _⟩ := x; exact ⟨a, h1, h2⟩)
  | ow i => (obtain ⟨a, h1, h2, _⟩ := x; exact ⟨a, h1, h2⟩)

structure EW (B : Bs) (F : Fi) (X : Str → Prop) (n : Nat) (ρ : List (Option Sl)) (e : Expr) (Q : AV → Prop) : Prop where
  go : ∀ env oa A s, Rp B F env oa ρ s → Ar B A n s →
    wpAny (model B.prog B.w) A (eval e env) (fun v s' => ∃ r, Q r ∧ Kp B s s' ∧ VR B env oa s s' v r) (EP B X s) s
structure TW (B : Bs) (F : Fi) (X : Str → Prop) (n : Nat) (ρ : List (Option Sl)) (e : Expr) (Q : Bool → Prop) : Prop where
  go : ∀ env oa A s, Rp B F env oa ρ s → Ar B A n s →
    wpAny (model B.prog B.w) A (isTrue e env (eval e env)) (fun b s' => Q b ∧ Kp B s s') (EP B X s) s

section
variable {B : Bs} {F : Fi} {X : Str → Prop} {n : Nat} {ρ : List (Option Sl)}
theorem EW.mono {e : Expr} {Q Q' : AV → Prop} (h : EW B F X n ρ e Q) (q : ∀ r, Q r → Q' r) : EW B F X n ρ e Q' :=
  .mk fun env oa A s R a => wpAny_mono (h.go env oa A s R a) (fun _ _ hz3 => by obtain ⟨r, h1, h2⟩ := hz3; exact ⟨r, q r h1, h2⟩) fun _ _ x => x
end

end Mine
end

section
open PySem PySem.W PyProof.Rows
set_option Elab.async false
set_option maxRecDepth 100000
set_option linter.unusedVariables false
namespace Mine

section
variable {B : Bs} {F : Fi} {X : Str → Prop} {n : Nat} {ρ : List (Option Sl)}

theorem Kp.refl (s : Shared) : Kp B s s := KpW.refl s

theorem EW.run {e : Expr} {Q : AV → Prop} (h : EW B F X n ρ e Q) {env oa A s0 s} {P : Value → Shared → Prop} (R : Rp B F env oa ρ s) (a : Ar B A n s) (k0 : Kp B s0 s)
    (c : ∀ v s' r, Q r → Kp B s s' → VR B env oa s s' v r → P v s') : wpAny (model B.prog B.w) A (eval e env) P (EP B X s0) s :=
  wpAny_mono (h.go env oa A s R a) (fun v s' hz1 => by obtain ⟨r, q, k, x⟩ := hz1; exact c v s' r q k x) fun _ _ x => x.back k0
theorem TW.run {e : Expr} {Q : Bool → Prop} (h : TW B F X n ρ e Q) {env oa A s0 s} {P : Bool → Shared → Prop} (R : Rp B F env oa ρ s) (a : Ar B A n s) (k0 : Kp B s0 s)
    (c : ∀ b s', Q b → Kp B s s' → P b s') : wpAny (model B.prog B.w) A (isTrue e env (eval e env)) P (EP B X s0) s :=
  wpAny_mono (h.go env oa A s R a) (fun v s' hz2 => by obtain ⟨q, k⟩ := hz2; exact c v s' q k) fun _ _ x => x.back k0
theorem TW.mono {e : Expr} {Q Q' : Bool → Prop} (h : TW B F X n ρ e Q) (q : ∀ r, Q r → Q' r) : TW B F X n ρ e Q' :=
  .mk fun env oa A s R a => wpAny_mono (h.go env oa A s R a) (fun _ _ hz3 => by obtain ⟨h1, h2⟩ := hz3; exact ⟨q _ h1, h2⟩) fun _ _ x => x

theorem EW.cint {i : Int} {k pos} {Q : AV → Prop} (h : Q (.im (.int i))) : EW B F X n ρ (.Constant (.int i) k pos) Q :=
  .mk fun env oa A s R a => wpAny_Constant_int ⟨_, h, Kp.toks, .int _ _⟩
theorem EW.cstr {x : Str} {k pos} {Q : AV → Prop} (h : Q (.im (.str x))) : EW B F X n ρ (.Constant (.str x) k pos) Q :=
  .mk fun env oa A s R a => wpAny_Constant_str ⟨_, h, Kp.toks, .str _ _⟩
theorem EW.cbool {b : Bool} {k pos} {Q : AV → Prop} (h : Q (.im (.bool b))) : EW B F X n ρ (.Constant (.bool b) k pos) Q :=
  .mk fun env oa A s R a => wpAny_Constant_bool ⟨_, h, Kp.refl _, .bool _⟩
theorem EW.cnone {k pos} {Q : AV → Prop} (h : Q (.im .none)) : EW B F X n ρ (.Constant .none k pos) Q :=
  .mk fun env oa A s R a => wpAny_Constant_none ⟨_, h, Kp.refl _, .none⟩

noncomputable def Sl.av (i : Nat) : Sl → AV
  | .im d => .im d
  | .fz c => .ct .fz c
  | .own c _ => .ct (.ow i) c
theorem loadVar {env oa A s x k v} {Q : Value → Shared → Prop} {E} {i : Nat} (R : Rp B F env oa ρ s) (hx : F.vars[i]? = some (x, k)) (hv : VarAt env s.heap x k v) (h : Q v s) {pos} :
    wpAny (model B.prog B.w) A (eval (.Name x pos) env) Q E s := by
  obtain ⟨h1, h2, h3⟩ := F.at hx
  have hk : env.scope.kind = .function := by rw [R.scope]; exact F.fn
  have hl : env.kindOf x = some k.kind := by unfold Env.kindOf; rw [R.scope]; exact h1
  refine wpAny_Name ?_ h2
  cases k with
  | loc => (obtain ⟨m, hn, hm⟩ := hv; exact wpAny_loadName_local hk hl hn hm h)
  | cel => (obtain ⟨c, hc, hm⟩ := hv; exact wpAny_loadName_cell hk hl hc hm h)
  | fre => (obtain ⟨c, hc, hm⟩ := hv; exact wpAny_loadName_free hk hl hc hm h h3)
theorem EW.name {x : Str} {pos} {Q : AV → Prop} (i : Nat) {k : Kd} {sl : Sl} (hx : F.vars[i]? = some (x, k)) (hs : ρ[i]? = some (some sl)) (h : Q (sl.av i)) : EW B F X n ρ (.Name x pos) Q := by
  refine .mk ?_
  intro env oa A s R a
  have y := R.slots i x k sl hx hs
  cases sl with
  | im d => (obtain ⟨v, h1, h2⟩ := y; exact loadVar R hx h1 ⟨_, h, Kp.refl _, h2⟩)
  | fz c => (obtain ⟨v, h1, h2, h3⟩ := y; exact loadVar R hx h1 ⟨_, h, Kp.refl _, v, rfl, h2, h3⟩)
  | own c => (obtain ⟨v, h1, h2, h3, _⟩ := y; exact loadVar R hx h1 ⟨_, h, Kp.refl _, v, rfl, h2, h3⟩)

noncomputable def Bas (B : Bs) (s : Shared) : Prop := ∀ b o, B.hB.get? b = some o → s.heap.get? b = some o
noncomputable def BinS (B : Bs) (n : Nat) (op : Operator) (x y z : AV) : Prop :=
  ∀ env oa A s0 s vx vy (E : Value → Shared → Prop), Bas B s → Ar B A n s → VR B env oa s0 s vx x → VR B env oa s0 s vy y →
    wpAny (model B.prog B.w) A (binaryOp op vx vy) (fun v s' => Kp B s s' ∧ VR B env oa s s' v z) E s
noncomputable def CmpS (B : Bs) (n : Nat) (op : CmpOp) (x y : AV) (r : Bool) : Prop :=
  ∀ env oa A s0 s vx vy (E : Value → Shared → Prop), Bas B s → Ar B A n s → VR B env oa s0 s vx x → VR B env oa s0 s vy y →
    wpAny (model B.prog B.w) A (compareOp op vx vy) (fun v s' => v = .bool r ∧ Kp B s s') E s
noncomputable def UnS (B : Bs) (n : Nat) (op : UnaryOp) (x z : AV) : Prop :=
  ∀ env oa A s0 s vx (E : Value → Shared → Prop), Bas B s → Ar B A n s → VR B env oa s0 s vx x →
    wpAny (model B.prog B.w) A (unaryOp op vx) (fun v s' => Kp B s s' ∧ VR B env oa s s' v z) E s
noncomputable def TruS (B : Bs) (n : Nat) (x : AV) (r : Bool) : Prop :=
  ∀ env oa A s0 s vx (E : Value → Shared → Prop), Bas B s → Ar B A n s → VR B env oa s0 s vx x →
    wpAny (model B.prog B.w) A (truthy vx) (fun v s' => v = r ∧ Kp B s s') E s

theorem EW.bin {l op r pos} {Q : AV → Prop} (h : EW B F X n ρ l fun x => EW B F X n ρ r fun y => ∃ z, BinS B n op x y z ∧ Q z) : EW B F X n ρ (.BinOp l op r pos) Q :=
  .mk fun env oa A s R a => wpAny_BinOp (h.run R a (Kp.refl _) fun vx s1 rx qx k1 x1 => qx.run (R.kp k1) (a.kp k1) k1 fun vy s2 ry ⟨z, hz, q⟩ k2 x2 =>
    wpAny_mono (hz env oa A s s2 vx vy _ ((R.kp k1).kp k2).base ((a.kp k1).kp k2) (x1.kp k2) (x2.back k1)) (fun v s3 hz5 => by obtain ⟨k3, x3⟩ := hz5; exact ⟨z, q, (k1.trans k2).trans k3, x3.back (k1.trans k2)⟩) fun _ _ x => x)
theorem EW.cmp {l op r pos} {Q : AV → Prop} (h : EW B F X n ρ l fun x => EW B F X n ρ r fun y => ∃ z, CmpS B n op x y z ∧ Q (.im (.bool z))) (hm : behindInMarks op r = false := by with_unfolding_all rfl) : EW B F X n ρ (.Compare l [op] [r] pos) Q :=
  .mk fun env oa A s R a => wpAny_Compare1 (h.run R a (Kp.refl _) fun vx s1 rx qx k1 x1 => qx.run (R.kp k1) (a.kp k1) k1 fun vy s2 ry ⟨z, hz, q⟩ k2 x2 =>
    wpAny_mono (hz env oa A s s2 vx vy _ ((R.kp k1).kp k2).base ((a.kp k1).kp k2) (x1.kp k2) (x2.back k1)) (fun v s3 hz7 => by obtain ⟨e, k3⟩ := hz7; exact ⟨_, q, (k1.trans k2).trans k3, by subst e; exact .bool _⟩) fun _ _ x => x) hm
theorem EW.un {op x pos} {Q : AV → Prop} (h : EW B F X n ρ x fun x => ∃ z, UnS B n op x z ∧ Q z) : EW B F X n ρ (.UnaryOp op x pos) Q :=
  .mk fun env oa A s R a => wpAny_UnaryOp (h.run R a (Kp.refl _) fun vx s1 rx ⟨z, hz, q⟩ k1 x1 =>
    wpAny_mono (hz env oa A s s1 vx _ (R.kp k1).base (a.kp k1) x1) (fun v s3 hz9 => by obtain ⟨k3, x3⟩ := hz9; exact ⟨z, q, k1.trans k3, x3.back k1⟩) fun _ _ x => x)

theorem TW.val {e : Expr} {Q : Bool → Prop} (h : EW B F X n ρ e fun x => ∃ b, TruS B n x b ∧ Q b)
    (he : ∀ env whole, isTrue e env whole = (do let v ← whole; standAt e.pos; holding [v] (truthy v)) := by intros; rfl) : TW B F X n ρ e Q :=
  .mk fun env oa A s R a => wpAny_isTrue_value (h.run R a (Kp.refl _) fun vx s1 rx ⟨b, hb, q⟩ k1 x1 =>
    wpAny_mono (hb env oa A s s1 vx _ (R.kp k1).base (a.kp k1) x1) (fun v s3 hz11 => by obtain ⟨e, k3⟩ := hz11; subst e; exact ⟨q, k1.trans k3⟩) fun _ _ x => x) (he env _)
theorem TW.not {x pos} {Q : Bool → Prop} (h : TW B F X n ρ x fun b => Q (!b)) : TW B F X n ρ (.UnaryOp .Not x pos) Q :=
  .mk fun env oa A s R a => wpAny_isTrue_Not (h.go env oa A s R a)
theorem TW.cmp {l op r pos} {Q : Bool → Prop} (h : EW B F X n ρ l fun x => EW B F X n ρ r fun y => ∃ z, CmpS B n op x y z ∧ Q z) (hm : behindInMarks op r = false := by with_unfolding_all rfl) : TW B F X n ρ (.Compare l [op] [r] pos) Q :=
  .mk fun env oa A s R a => wpAny_isTrue_Compare1 (h.run R a (Kp.refl _) fun vx s1 rx qx k1 x1 => qx.run (R.kp k1) (a.kp k1) k1 fun vy s2 ry ⟨z, hz, q⟩ k2 x2 =>
    wpAny_mono (hz env oa A s s2 vx vy _ ((R.kp k1).kp k2).base ((a.kp k1).kp k2) (x1.kp k2) (x2.back k1)) (fun v s3 hz13 => by obtain ⟨e, k3⟩ := hz13; subst e; exact wpAny_truthy_bool ⟨q, (k1.trans k2).trans k3⟩) fun _ _ x => x) hm

structure AW (B : Bs) (F : Fi) (X : Str → Prop) (n : Nat) (ρ : List (Option Sl)) (op : BoolOp) (es : List Expr) (Q : Bool → Prop) : Prop where
  go : ∀ env oa A s, Rp B F env oa ρ s → Ar B A n s → wpAny (model B.prog B.w) A (allTrue op es env) (fun b s' => Q b ∧ Kp B s s') (EP B X s) s
theorem AW.andNil {Q : Bool → Prop} (h : Q true) : AW B F X n ρ .And [] Q := .mk fun env oa A s R a => wpAny_allTrue_And_nil ⟨h, Kp.refl _⟩
theorem AW.orNil {Q : Bool → Prop} (h : Q false) : AW B F X n ρ .Or [] Q := .mk fun env oa A s R a => wpAny_allTrue_Or_nil ⟨h, Kp.refl _⟩
theorem AW.andCons {x rest} {Q : Bool → Prop} (h : TW B F X n ρ x fun b => if b = true then AW B F X n ρ .And rest Q else Q false) : AW B F X n ρ .And (x :: rest) Q :=
  .mk fun env oa A s R a => wpAny_allTrue_And_cons (h.run R a (Kp.refl _) fun b s1 q k1 => by
    cases b with
    | false => exact ⟨by simpa using q, k1⟩
    | true =>
      have q' : AW B F X n ρ .And rest Q := by simpa using q
      exact wpAny_mono (q'.go env oa A s1 (R.kp k1) (a.kp k1)) (fun b s2 hz14 => by obtain ⟨h1, h2⟩ := hz14; exact ⟨h1, k1.trans h2⟩) fun _ _ x => x.back k1)
theorem AW.orCons {x rest} {Q : Bool → Prop} (h : TW B F X n ρ x fun b => if b = true then Q true else AW B F X n ρ .Or rest Q) : AW B F X n ρ .Or (x :: rest) Q :=
  .mk fun env oa A s R a => wpAny_allTrue_Or_cons (h.run R a (Kp.refl _) fun b s1 q k1 => by
    cases b with
    | true => exact ⟨by simpa using q, k1⟩
    | false =>
      have q' : AW B F X n ρ .Or rest Q := by simpa using q
      exact wpAny_mono (q'.go env oa A s1 (R.kp k1) (a.kp k1)) (fun b s2 hz15 => by obtain ⟨h1, h2⟩ := hz15; exact ⟨h1, k1.trans h2⟩) fun _ _ x => x.back k1)
theorem TW.bool {op es pos} {Q : Bool → Prop} (h : AW B F X n ρ op es Q) : TW B F X n ρ (.BoolOp op es pos) Q :=
  .mk fun env oa A s R a => wpAny_isTrue_BoolOp (h.go env oa A s R a)
theorem EW.ife {t b o pos} {Q : AV → Prop} (h : TW B F X n ρ t fun c => if c = true then EW B F X n ρ b Q else EW B F X n ρ o Q) : EW B F X n ρ (.IfExp t b o pos) Q :=
  .mk fun env oa A s R a => wpAny_IfExp (h.run R a (Kp.refl _) fun c s1 q k1 => by
    cases c with
    | true =>
      have q' : EW B F X n ρ b Q := by simpa using q
      exact q'.run (R.kp k1) (a.kp k1) k1 fun v s2 r h1 h2 h3 => ⟨r, h1, k1.trans h2, h3.back k1⟩
    | false =>
      have q' : EW B F X n ρ o Q := by simpa using q
      exact q'.run (R.kp k1) (a.kp k1) k1 fun v s2 r h1 h2 h3 => ⟨r, h1, k1.trans h2, h3.back k1⟩)
theorem EW.and2 {x y pos} {Q : AV → Prop} (h : EW B F X n ρ x fun r => ∃ b, TruS B n r b ∧ if b = true then EW B F X n ρ y Q else Q r) : EW B F X n ρ (.BoolOp .And [x, y] pos) Q :=
  .mk fun env oa A s R a => wpAny_And2 (h.run R a (Kp.refl _) fun vx s1 rx ⟨b, hb, q⟩ k1 x1 =>
    wpAny_mono (hb env oa A s s1 vx _ (R.kp k1).base (a.kp k1) x1) (fun v s3 hz17 => by
      obtain ⟨e, k3⟩ := hz17
      subst e
      cases v with
      | true =>
        have q' : EW B F X n ρ y Q := by simpa using q
        exact q'.run ((R.kp k1).kp k3) ((a.kp k1).kp k3) (k1.trans k3) fun v s2 r h1 h2 h3 => ⟨r, h1, (k1.trans k3).trans h2, h3.back (k1.trans k3)⟩
      | false => exact ⟨rx, by simpa using q, k1.trans k3, x1.kp k3⟩) fun _ _ x => x)
theorem EW.or2 {x y pos} {Q : AV → Prop} (h : EW B F X n ρ x fun r => ∃ b, TruS B n r b ∧ if b = true then Q r else EW B F X n ρ y Q) : EW B F X n ρ (.BoolOp .Or [x, y] pos) Q :=
  .mk fun env oa A s R a => wpAny_Or2 (h.run R a (Kp.refl _) fun vx s1 rx ⟨b, hb, q⟩ k1 x1 =>
    wpAny_mono (hb env oa A s s1 vx _ (R.kp k1).base (a.kp k1) x1) (fun v s3 hz19 => by
      obtain ⟨e, k3⟩ := hz19
      subst e
      cases v with
      | false =>
        have q' : EW B F X n ρ y Q := by simpa using q
        exact q'.run ((R.kp k1).kp k3) ((a.kp k1).kp k3) (k1.trans k3) fun v s2 r h1 h2 h3 => ⟨r, h1, (k1.trans k3).trans h2, h3.back (k1.trans k3)⟩
      | true => exact ⟨rx, by simpa using q, k1.trans k3, x1.kp k3⟩) fun _ _ x => x)

structure LW (B : Bs) (F : Fi) (X : Str → Prop) (n : Nat) (ρ : List (Option Sl)) (es : List Expr) (Q : List AV → Prop) : Prop where
  go : ∀ env oa A s pos, Rp B F env oa ρ s → Ar B A n s → wpAny (model B.prog B.w) A (spliced (backTo pos (starEach es env)))
    (fun vs s' => ∃ rs, Q rs ∧ Kp B s s' ∧ vs.length = rs.length ∧ ∀ (i : Nat) v r, vs[i]? = some v → rs[i]? = some r → VR B env oa s s' v r) (EP B X s) s
theorem LW.nil {Q : List AV → Prop} (h : Q []) : LW B F X n ρ [] Q :=
  .mk fun env oa A s pos R a => wpAny_items_nil ⟨[], h, Kp.refl _, rfl, fun i v r e => by simp at e⟩
theorem LW.cons {e rest} {Q : List AV → Prop} (h : EW B F X n ρ e fun r => LW B F X n ρ rest fun rs => Q (r :: rs))
    (he : ∀ env, starEach (e :: rest) env = (false, eval e env) :: starEach rest env := by intro _; rfl) : LW B F X n ρ (e :: rest) Q :=
  .mk fun env oa A s pos R a => wpAny_items_cons (h.run R a (Kp.refl _) fun v s1 r q k1 x1 =>
    wpAny_mono (q.go env oa A s1 pos (R.kp k1) (a.kp k1)) (fun vs s2 hz20 => by obtain ⟨rs, h1, h2, h3, h4⟩ := hz20; exact ⟨r :: rs, h1, k1.trans h2, by simp [h3], fun i v' r' e1 e2 => by
      cases i with
      | zero => simp at e1 e2; subst e1; subst e2; exact x1.kp h2
      | succ i => exact (h4 i v' r' (by simpa using e1) (by simpa using e2)).back k1⟩) fun _ _ x => x.back k1) (he env)
theorem LW.mono {es} {Q Q' : List AV → Prop} (h : LW B F X n ρ es Q) (q : ∀ r, Q r → Q' r) : LW B F X n ρ es Q' :=
  .mk fun env oa A s pos R a => wpAny_mono (h.go env oa A s pos R a) (fun _ _ hz21 => by obtain ⟨r, h1, h2⟩ := hz21; exact ⟨r, q _ h1, h2⟩) fun _ _ x => x

inductive Dats : List AV → List D → Prop
  | nil : Dats [] []
  | cons {d rs ds} : Dats rs ds → Dats (.im d :: rs) (d :: ds)
theorem Dats.ims {env oa s s'} : ∀ {rs ds}, Dats rs ds → ∀ {vs : List Value}, vs.length = rs.length → (∀ (i : Nat) v r, vs[i]? = some v → rs[i]? = some r → VR B env oa s s' v r) → Ims s'.heap vs ds
  := by
  intro rs ds k
  induction k with
  | nil => intro vs h _; cases vs with | nil => exact .nil | cons _ _ => simp at h
  | cons k ih =>
    intro vs h hv
    cases vs with
    | nil => simp at h
    | cons v vs => exact .cons (hv 0 v _ rfl rfl) (ih (by simpa using h) fun i v' r' e1 e2 => hv (i + 1) v' r' (by simpa using e1) (by simpa using e2))
theorem push_kp {s : Shared} (o : Obj) {t : Nat} : Kp B s { s with heap := s.heap.push o, toks := t } := Kp.of fun b o' e => Heap.get?_push_of_some _ e
theorem fresh_size (s : Shared) : s.heap.get? s.heap.objs.size = none := by
  cases e : s.heap.get? s.heap.objs.size with
  | none => rfl
  | some o => exact absurd (Heap.lt_size e) (Nat.lt_irrefl _)
theorem Dats.length : ∀ {rs ds}, Dats rs ds → rs.length = ds.length
  | _, _, .nil => rfl
  | _, _, .cons k => by simp [k.length]

theorem EW.tuple {es k pos} {Q : AV → Prop} (h : LW B F X n ρ es fun rs => ∃ ds, Dats rs ds ∧ ds.length ≤ sizeLine ∧ Q (.im (.tup ds))) : EW B F X n ρ (.Tuple es k pos) Q :=
  .mk fun env oa A s R a => wpAny_Tuple (wpAny_mono (h.go env oa A s pos R a) (fun vs s1 ⟨rs, ⟨ds, hd, hl, q⟩, k1, e, hv⟩ =>
    ⟨by rw [e, hd.length]; exact hl, _, q, k1.trans (push_kp _), .tup (Heap.get?_push_size _ rfl) rfl rfl (by simpa using (hd.ims e hv).grow (push_kp (B := B) _ (t := s1.toks)).tups)⟩) fun _ _ x => x)
theorem EW.list {es pos} {Q : AV → Prop} (h : LW B F X n ρ es fun rs => ∃ ds, Dats rs ds ∧ ds.length ≤ sizeLine ∧ Q (.ct .fr (.lst ds))) : EW B F X n ρ (.List es pos) Q :=
  .mk fun env oa A s R a => wpAny_List (wpAny_mono (h.go env oa A s pos R a) (fun vs s1 ⟨rs, ⟨ds, hd, hl, q⟩, k1, e, hv⟩ =>
    ⟨by rw [e, hd.length]; exact hl, _, q, k1.trans (push_kp _), _, rfl, ⟨_, _, _, Heap.get?_push_size _ rfl, ⟨rfl, rfl⟩, rfl, by simpa using (hd.ims e hv).grow (push_kp (B := B) _ (t := s1.toks)).tups⟩, k1.fresh (fresh_size s1)⟩) fun _ _ x => x)
end
end Mine
end

section
open PySem PySem.W PyProof.Rows
set_option Elab.async false
set_option maxRecDepth 100000
set_option linter.unusedVariables false
namespace Mine

theorem Ns.unique {h : Heap} {a : Addr} {m m' : Str → Option Value} (x : h.Ns a m) (y : h.Ns a m') : m = m' := by
  obtain ⟨o, es, ep, ho, hd, _, hf⟩ := x
  obtain ⟨o', es', ep', ho', hd', _, hf'⟩ := y
  rw [ho] at ho'; cases ho'
  rw [hd] at hd'; cases hd'
  funext n; rw [← hf n, ← hf' n]

theorem putName_cls (name : Str) (h : Int) (key v : Value) (o : Obj) : (Obj.putName name h key v o).cls = o.cls := by
  obtain ⟨c, d, dt, sl⟩ := o
  cases dt <;> simp [Obj.putName, Obj.modName] <;> (try split) <;> rfl
theorem putName_free {name : Str} {h : Int} {key v : Value} {o : Obj} {es ep} (hd : o.data = .dict es ep) : (Obj.putName name h key v o).isFreed = false := by
  obtain ⟨c, d, dt, sl⟩ := o
  subst hd
  simp [Obj.putName] <;> (try split) <;> rfl
open Sem in
theorem nsSet_cls {M : Model} {A : Around} {E : Value → Shared → Prop} {s : Shared} {a : Addr} {m : Str → Option Value} {name : Str} {v : Value} {o : Obj} {Q : Unit → Shared → Prop} (hn : s.heap.Ns a m) (ho : s.heap.get? a = some o)
    (h : ∀ h' o', h'.Ns a (fun x => if x = name then some v else m x) → Heap.SameBut a s.heap h' → h'.get? a = some o' → o'.cls = o.cls → Q () { s with heap := h', toks := s.toks + 1 }) :
    wpAny M A (nsSet a name v) Q E s := by
  intro Γ p hΓ
  have h1 := Sem.wp_nsSet M Γ (fun e _ s' => E e s') p s hn name v (fun _ _ s' => ∃ h', h'.Ns a (fun x => if x = name then some v else m x) ∧ Heap.SameBut a s.heap h' ∧ s' = { s with heap := h', toks := s.toks + 1 }) (fun h' x y => ⟨h', x, y, rfl⟩)
  obtain ⟨o1, es, ep, ho1, hd, hk, hm⟩ := id hn
  obtain rfl : o1 = o := Option.some.inj (ho1.symm.trans ho)
  have hany : aRefKeyMayBeTheName name es = false := by
    rw [aRefKeyMayBeTheName_eq, aRefKeyMayBeTheNameByArray]
    have : es.any (·.refKey) = false := by
      rw [Array.any_eq_false']; intro e he; obtain ⟨n, t, h⟩ := hk e he; simp [DictEntry.refKey, h]
    simp [this]
  simp only [nsSet, strHash, wp_bind', wp_cmd_ask, wp_pure', wp_cmd_mkText] at h1 ⊢
  rw [wp_loadPart_of M Γ _ p { s with toks := s.toks + 1 } (o := o1) _ ho] at h1 ⊢
  simp only [hd, hany, Bool.false_eq_true, if_false, wp_cmd_updatePart] at h1 ⊢
  refine ⟨h1.1, ?_⟩
  obtain ⟨h', x, y, e⟩ := h1.2
  have e' : s.heap.update a (Obj.putName name (if name.cps.isEmpty = true then 0 else reduceHash (M.w.params.strHash name.cps)) (.str name s.toks) v) = h' := congrArg Shared.heap e
  obtain ⟨o2, es2, ep2, ho2, hd2, r⟩ := id x
  refine e ▸ h h' o2 x y ho2 ?_
  have := Heap.get?_update_self (Obj.putName name (if name.cps.isEmpty = true then 0 else reduceHash (M.w.params.strHash name.cps)) (.str name s.toks) v) ho (putName_free hd)
  rw [e', ho2] at this
  cases this
  exact putName_cls ..

inductive Fl where
  | next
  | brk
  | cont
  | ret (r : AV)

section
variable {B : Bs} {F : Fi} {X : Str → Prop} {n : Nat} {ρ : List (Option Sl)}

noncomputable def FlR (B : Bs) (env : Env) (oa : Nat → Option Addr) (s s' : Shared) : Flow → Fl → Prop
  | .next, .next => True
  | .brk, .brk => True
  | .cont, .cont => True
  | .ret v, .ret r => VR B env oa s s' v r
  | _, _ => False
noncomputable def OwnFrom (s : Shared) (oa oa' : Nat → Option Addr) : Prop := ∀ i a, oa' i = some a → (∃ j, oa j = some a) ∨ s.heap.get? a = none
theorem OwnFrom.refl (s : Shared) (oa) : OwnFrom s oa oa := fun i a h => .inl ⟨i, h⟩
noncomputable def Po (B : Bs) (F : Fi) (env : Env) (oa : Nat → Option Addr) (s : Shared) (Q : Fl → List (Option Sl) → Prop) (f : Flow) (s' : Shared) : Prop :=
  ∃ fl ρ' oa', Q fl ρ' ∧ FlR B env oa' s s' f fl ∧ Rp B F env oa' ρ' s' ∧ KpW B (FW env oa) s s' ∧ OwnFrom s oa oa'
noncomputable def Hd (A : Around) (env : Env) : Prop := (∃ l, A.frames = some (env :: l)) ∧ env.frame = some env.locals
structure SW (B : Bs) (F : Fi) (X : Str → Prop) (n : Nat) (ρ : List (Option Sl)) (st : Stmt) (Q : Fl → List (Option Sl) → Prop) : Prop where
  go : ∀ env oa A s, Hd A env → Rp B F env oa ρ s → Ar B A n s → wpAny (model B.prog B.w) A (exec st env) (Po B F env oa s Q) (EPW B (FW env oa) X s) s
structure SWs (B : Bs) (F : Fi) (X : Str → Prop) (n : Nat) (ρ : List (Option Sl)) (st : List Stmt) (Q : Fl → List (Option Sl) → Prop) : Prop where
  go : ∀ env oa A s, Hd A env → Rp B F env oa ρ s → Ar B A n s → wpAny (model B.prog B.w) A (execs st env) (Po B F env oa s Q) (EPW B (FW env oa) X s) s

theorem FW.from {env : Env} {s : Shared} {oa oa' : Nat → Option Addr} (h : OwnFrom s oa oa') : ∀ b, FW env oa' b → FW env oa b ∨ s.heap.get? b = none := by
  rintro b (x | ⟨i, x⟩)
  · exact .inl (.inl x)
  · exact (h i b x).imp .inr fun y => y
theorem KpW.fresh {W} {s s' : Shared} (k : KpW B W s s') {a : Addr} (h : s'.heap.get? a = none) : s.heap.get? a = none := by
  cases e : s.heap.get? a with
  | none => rfl
  | some o => obtain ⟨o', e', _⟩ := k.live a o e; rw [h] at e'; cases e'
theorem OwnFrom.trans {W} {s s' : Shared} {oa oa' oa'' : Nat → Option Addr} (h : OwnFrom s oa oa') (k : KpW B W s s') (h' : OwnFrom s' oa' oa'') : OwnFrom s oa oa'' := by
  intro i a e
  rcases h' i a e with ⟨j, x⟩ | x
  · exact h j a x
  · exact .inr (k.fresh x)
theorem FlR.back {W env oa} {s s1 s' : Shared} {f : Flow} {fl : Fl} (k : KpW B W s s1) (x : FlR B env oa s1 s' f fl) : FlR B env oa s s' f fl := by
  cases f <;> cases fl <;> first | exact x | skip
  rename_i v r
  cases r with
  | im d => exact x
  | ct m c => cases m with
    | fz => exact x
    | fr => (obtain ⟨a, h1, h2, h3⟩ := x; exact ⟨a, h1, h2, k.fresh h3⟩)
    | ow i => exact x
theorem Po.back {env oa oa1} {s s1 : Shared} {Q : Fl → List (Option Sl) → Prop} {f s'} (k : KpW B (FW env oa) s s1) (o : OwnFrom s oa oa1) (x : Po B F env oa1 s1 Q f s') : Po B F env oa s Q f s' :=
  let ⟨fl, ρ', oa', h1, h2, h3, h4, h5⟩ := x
  ⟨fl, ρ', oa', h1, h2.back k, h3, k.trans h4 (FW.from o), o.trans k h5⟩
theorem EPW.back {env oa oa1} {s s1 : Shared} {e s'} (k : KpW B (FW env oa) s s1) (o : OwnFrom s oa oa1) (x : EPW B (FW env oa1) X s1 e s') : EPW B (FW env oa) X s e s' :=
  by obtain ⟨c, cv, a, h1, h2, h3, h4, h5⟩ := x; exact ⟨c, cv, a, h1, h2, h3, k.trans h4 (FW.from o), h5.back k⟩

theorem SWs.run {sts : List Stmt} {Q : Fl → List (Option Sl) → Prop} (h : SWs B F X n ρ sts Q) {env oa oa0 A s0 s} (hd : Hd A env) (R : Rp B F env oa ρ s) (a : Ar B A n s) (k0 : KpW B (FW env oa0) s0 s) (o : OwnFrom s0 oa0 oa) :
    wpAny (model B.prog B.w) A (execs sts env) (Po B F env oa0 s0 Q) (EPW B (FW env oa0) X s0) s :=
  wpAny_mono (h.go env oa A s hd R a) (fun f s' x => x.back k0 o) fun _ _ x => x.back k0 o
theorem SWs.nil {Q : Fl → List (Option Sl) → Prop} (h : Q .next ρ) : SWs B F X n ρ [] Q :=
  .mk fun env oa A s hd R a => wpAny_execs_nil ⟨.next, ρ, oa, h, trivial, R, KpW.refl _, OwnFrom.refl _ _⟩
theorem SWs.cons {st rest} {Q : Fl → List (Option Sl) → Prop} (h : SW B F X n ρ st fun fl ρ' => match fl with | .next => SWs B F X n ρ' rest Q | fl => Q fl ρ') : SWs B F X n ρ (st :: rest) Q := by
  refine .mk ?_
  intro env oa A s hd R a
  refine wpAny_execs_cons (wpAny_mono (h.go env oa A s hd R a) (fun f s' x => ?_) fun _ _ x => x)
  obtain ⟨fl, ρ', oa', h1, h2, h3, h4, h5⟩ := x
  cases f with
  | next => cases fl with
    | next => exact SWs.run h1 hd h3 (a.kp h4) h4 h5
    | _ => exact h2.elim
  | brk => cases fl with
    | brk => exact ⟨_, ρ', oa', h1, h2, h3, h4, h5⟩
    | _ => exact h2.elim
  | cont => cases fl with
    | cont => exact ⟨_, ρ', oa', h1, h2, h3, h4, h5⟩
    | _ => exact h2.elim
  | ret v => cases fl with
    | ret r => exact ⟨_, ρ', oa', h1, h2, h3, h4, h5⟩
    | _ => exact h2.elim
theorem SWs.mono {sts} {Q Q' : Fl → List (Option Sl) → Prop} (h : SWs B F X n ρ sts Q) (q : ∀ f r, Q f r → Q' f r) : SWs B F X n ρ sts Q' :=
  .mk fun env oa A s hd R a => wpAny_mono (h.go env oa A s hd R a) (fun _ _ hz1 => by obtain ⟨fl, ρ', oa', h1, h2⟩ := hz1; exact ⟨fl, ρ', oa', q _ _ h1, h2⟩) fun _ _ x => x
theorem SW.mono {st} {Q Q' : Fl → List (Option Sl) → Prop} (h : SW B F X n ρ st Q) (q : ∀ f r, Q f r → Q' f r) : SW B F X n ρ st Q' :=
  .mk fun env oa A s hd R a => wpAny_mono (h.go env oa A s hd R a) (fun _ _ hz2 => by obtain ⟨fl, ρ', oa', h1, h2⟩ := hz2; exact ⟨fl, ρ', oa', q _ _ h1, h2⟩) fun _ _ x => x

theorem SW.ret {e pos} {Q : Fl → List (Option Sl) → Prop} (h : EW B F X n ρ e fun r => Q (.ret r) ρ) : SW B F X n ρ (.Return (some e) pos) Q :=
  .mk fun env oa A s hd R a => wpAny_Return_some (wpAny_mono (h.go env oa A s R a) (fun v s' hz3 => by obtain ⟨r, q, k, x⟩ := hz3; exact ⟨_, ρ, oa, q, x, R.kp k, k.toW, OwnFrom.refl _ _⟩) fun _ _ x => x.toW)
theorem SW.ife {t b o pos} {Q : Fl → List (Option Sl) → Prop} (h : TW B F X n ρ t fun c => if c = true then SWs B F X n ρ b Q else SWs B F X n ρ o Q) : SW B F X n ρ (.If t b o pos) Q :=
  .mk fun env oa A s hd R a => wpAny_If (wpAny_mono (h.go env oa A s R a) (fun c s1 hz4 => by
    obtain ⟨q, k1⟩ := hz4
    cases c with
    | true =>
      have q' : SWs B F X n ρ b Q := by simpa using q
      exact q'.run hd (R.kp k1) (a.kp k1) k1.toW (OwnFrom.refl _ _)
    | false =>
      have q' : SWs B F X n ρ o Q := by simpa using q
      exact q'.run hd (R.kp k1) (a.kp k1) k1.toW (OwnFrom.refl _ _)) fun _ _ x => x.toW)
theorem SW.pass {pos} {Q : Fl → List (Option Sl) → Prop} (h : Q .next ρ) : SW B F X n ρ (.Pass pos) Q :=
  .mk fun env oa A s hd R a => wpAny_Pass ⟨.next, ρ, oa, h, trivial, R, KpW.refl _, OwnFrom.refl _ _⟩
theorem SW.expr {e pos} {Q : Fl → List (Option Sl) → Prop} (h : EW B F X n ρ e fun _ => Q .next ρ)
    (hs : ∀ env, swapsWith e none pos.line env = pure false := by intro _; rfl) : SW B F X n ρ (.Expr e pos) Q :=
  .mk fun env oa A s hd R a => wpAny_Expr_any (wpAny_mono (h.go env oa A s R a) (fun v s' hz5 => by obtain ⟨r, q, k, x⟩ := hz5; exact ⟨.next, ρ, oa, q, trivial, R.kp k, k.toW, OwnFrom.refl _ _⟩) fun _ _ x => x.toW)
    (by unfold interactive; rw [R.scope, F.fn]; rfl) (hs env)

noncomputable def AV.sl : AV → Option Sl
  | .im d => some (.im d)
  | .ct .fz c => some (.fz c)
  | .ct .fr c => some (.own c)
  | .ct (.ow _) _ => none
noncomputable def oaSet (oa : Nat → Option Addr) (i : Nat) (v : Value) : AV → Nat → Option Addr
  | .ct .fr _, j => if j = i then (match v with | .ref a => some a | _ => none) else oa j
  | _, j => if j = i then none else oa j

theorem VarAt.unique {env : Env} {h : Heap} {x : Str} {k : Kd} {v v' : Value} (a : VarAt env h x k v) (b : VarAt env h x k v') : v = v' := by
  have cel : ∀ {v v'}, (∃ c, env.cells.lookup x = some c ∧ h.IsCell c (some v)) → (∃ c, env.cells.lookup x = some c ∧ h.IsCell c (some v')) → v = v' := fun hz6 hz7 => by
    obtain ⟨c, h1, o, h2, h3⟩ := hz6
    obtain ⟨c', h4, o', h5, h6⟩ := hz7
    rw [h1] at h4; cases h4; rw [h2] at h5; cases h5; rw [h3] at h6; cases h6; rfl
  cases k with
  | loc => obtain ⟨m, h1, h2⟩ := a; obtain ⟨m', h3, h4⟩ := b; obtain rfl := Ns.unique h1 h3; rw [h2] at h4; cases h4; rfl
  | cel => exact cel a b
  | fre => exact cel a b
noncomputable def FzOld (F : Fi) (env : Env) (ρ : List (Option Sl)) (i : Nat) (s0 : Shared) (h : Heap) : Prop :=
  ∀ (j : Nat) y k' c a, j ≠ i → F.vars[j]? = some (y, k') → ρ[j]? = some (some (.fz c)) → VarAt env h y k' (.ref a) → ∃ o, s0.heap.get? a = some o
theorem Rp.stored {env oa} {s0 s s' : Shared} {i : Nat} {x : Str} {k : Kd} {v : Value} {r : AV} {sl : Sl} {W : Addr}
    (R0 : Rp B F env oa ρ s0) (hx : F.vars[i]? = some (x, k)) (hsl : r.sl = some sl)
    (hr : VR B env oa s0 s v r) (hk0 : Kp B s0 s) (Rz : ∀ a, s0.heap.get? a = none → ¬ FW env oa a ∧ B.hB.get? a = none)
    (hW : Priv env W) (hWb : B.hB.get? W = none) (hs : Heap.SameBut W s.heap s'.heap)
    (hgens : s'.gens = s.gens) (hos : s'.os = s.os) (hL : ∃ m, s'.heap.Ns env.locals m)
    (hcells : ∀ (j : Nat) y k', F.vars[j]? = some (y, k') → k' ≠ Kd.loc → ∃ c v, env.cells.lookup y = some c ∧ s'.heap.IsCell c v ∧ (j < F.own → env.locals < c))
    (hcl2 : ∀ y c, (y, c) ∈ env.cells → ∃ v, s'.heap.IsCell c v)
    (hnew : VarAt env s'.heap x k v) (hold : ∀ (j : Nat) y k' u, F.vars[j]? = some (y, k') → j ≠ i → VarAt env s.heap y k' u → VarAt env s'.heap y k' u)
    (hWo : ∃ o o', s.heap.get? W = some o ∧ s'.heap.get? W = some o' ∧ (∀ vs n, o.data ≠ .seq vs n) ∧ (∀ vs, o'.data ≠ .fields vs) ∧ ((∃ es ep, o.data = .dict es ep) → o'.cls = o.cls ∧ ∃ es ep, o'.data = .dict es ep)) :
    Rp B F env (oaSet oa i v r) (ρ.set i (some sl)) s' ∧ KpW B (Priv env) s s' ∧ OwnFrom s0 oa (oaSet oa i v r) ∧ FzOld F env ρ i s0 s'.heap := by
  have R : Rp B F env oa ρ s := R0.kp hk0
  obtain ⟨oW, oW', hoW, hoW', hns, hnf, hcl⟩ := hWo
  have oth : ∀ b, b ≠ W → s'.heap.get? b = s.heap.get? b := fun b hb => hs.2 b hb
  have k : KpW B (Priv env) s s' := by
    refine ⟨fun b o e nw _ => ?_, fun b o e nw => ?_, fun b o vs m e c d => ?_, fun b o e => ?_, hgens, hos⟩
    · rw [oth b (fun q => nw (q ▸ hW))]; exact e
    · exact ⟨o.slots, by rw [oth b (fun q => nw (q ▸ hW))]; exact e⟩
    · rw [oth b (fun q => by subst q; rw [hoW] at e; cases e; exact hns _ _ d)]; exact e
    · by_cases q : b = W
      · subst q; rw [hoW] at e; cases e; exact ⟨oW', hoW', fun _ => hnf, hcl⟩
      · exact ⟨o, by rw [oth b q]; exact e, fun x => x, fun x => ⟨rfl, x⟩⟩
  have nW : ∀ j a, oa j = some a → a ≠ W := fun j a h q => (R.opriv j a h).1 (q ▸ hW)
  have cont : ∀ a c, a ≠ W → ContAt B s.heap a c → ContAt B s'.heap a c := fun a c ne y => y.of_same (fun o e _ => by rw [oth a ne]; exact e) k.tups
  -- what the new name holds
  have oaOther : ∀ j, j ≠ i → oaSet oa i v r j = oa j := fun j hj => by
    cases r with
    | im d => simp [oaSet, hj]
    | ct m c => cases m <;> simp [oaSet, hj]
  have oaNew : ∀ a, oaSet oa i v r i = some a → v = .ref a ∧ s0.heap.get? a = none ∧ ∃ c, ContAt B s.heap a c := fun a h => by
    cases r with
    | im d => simp [oaSet] at h
    | ct m c => cases m with
      | fz => simp [oaSet] at h
      | ow _ => simp [oaSet] at h
      | fr =>
        obtain ⟨b, rfl, hc, hf⟩ := hr
        simp [oaSet] at h; subst h
        exact ⟨rfl, hf, c, hc⟩
  have notFW : ∀ a, ¬ FW env oa a → (∀ b, oaSet oa i v r i = some b → a ≠ b) → ¬ FW env (oaSet oa i v r) a := by
    rintro a h1 h2 (q | ⟨j, q⟩)
    · exact h1 (.inl q)
    · by_cases e : j = i
      · subst e; exact h2 a q rfl
      · rw [oaOther j e] at q; exact h1 (.inr ⟨j, q⟩)
  refine ⟨⟨fun b o h => ?_, R.scope, R.globals, R.builtins, hL, hcells, R.apart, R.locCell, hcl2, R.privNew, ?_, ?_, ?_⟩, k, ?_, ?_⟩
  · rw [oth b (fun q => by subst q; rw [hWb] at h; cases h)]; exact R.base b o h
  · intro j y k' sl' hy hρ
    by_cases e : j = i
    · subst e
      rw [hx] at hy; cases hy
      have hlt : j < ρ.length := by
        by_cases q : j < ρ.length
        · exact q
        · rw [List.set_eq_of_length_le (Nat.le_of_not_lt q)] at hρ
          rw [List.getElem?_eq_none (Nat.le_of_not_lt q)] at hρ; cases hρ
      rw [List.getElem?_set_self hlt] at hρ
      cases hρ
      cases r with
      | im d =>
        simp [AV.sl] at hsl; subst hsl
        exact ⟨v, hnew, hr.grow k.tups⟩
      | ct m c => cases m with
        | ow _ => simp [AV.sl] at hsl
        | fz =>
          simp [AV.sl] at hsl; subst hsl
          obtain ⟨a, rfl, hc, hf⟩ := hr
          exact ⟨a, hnew, cont a c (fun q => hf (q ▸ .inl hW)) hc, notFW a hf fun b hb => by simp [oaSet] at hb⟩
        | fr =>
          simp [AV.sl] at hsl; subst hsl
          obtain ⟨a, rfl, hc, hf⟩ := hr
          exact ⟨a, hnew, cont a c (fun q => (Rz a hf).1 (q ▸ .inl hW)) hc, by simp [oaSet], fun _ q => by cases q⟩
    · rw [List.getElem?_set_ne (Ne.symm e)] at hρ
      have old := R.slots j y k' sl' hy hρ
      cases sl' with
      | im d => (obtain ⟨u, h1, h2⟩ := old; exact ⟨u, hold j y k' u hy e h1, h2.grow k.tups⟩)
      | fz c =>
        obtain ⟨a, h1, h2, h3⟩ := R0.slots j y k' _ hy hρ
        have h1' := h1.keep fun b o h => hk0.data b o h (fun x => x)
        refine ⟨a, hold j y k' _ hy e h1', cont a c (fun q => h3 (q ▸ .inl hW)) (h2.kp hk0 (fun x => x)), notFW a h3 fun b hb q => ?_⟩
        subst q
        obtain ⟨o, ho⟩ := h2.exists
        rw [(oaNew a hb).2.1] at ho; cases ho
      | own c =>
        obtain ⟨a, h1, h2, h3, h4⟩ := old
        exact ⟨a, hold j y k' _ hy e h1, cont a c (nW j a h3) h2, by rw [oaOther j e]; exact h3, h4⟩
  · intro j j' a h1 h2
    by_cases e : j = i <;> by_cases e' : j' = i
    · rw [e, e']
    · exfalso; subst e; rw [oaOther j' e'] at h2; exact (Rz a (oaNew a h1).2.1).1 (.inr ⟨j', h2⟩)
    · exfalso; subst e'; rw [oaOther j e] at h1; exact (Rz a (oaNew a h2).2.1).1 (.inr ⟨j, h1⟩)
    · rw [oaOther j e] at h1; rw [oaOther j' e'] at h2; exact R.oinj j j' a h1 h2
  · intro j a h
    by_cases e : j = i
    · subst e
      obtain ⟨_, hn, c, hc⟩ := oaNew a h
      obtain ⟨o, ho⟩ := hc.exists
      have := Rz a hn
      exact ⟨fun q => this.1 (.inl q), this.2, o, by rw [oth a (fun q => this.1 (q ▸ .inl hW))]; exact ho⟩
    · rw [oaOther j e] at h
      obtain ⟨h1, h2, o, ho⟩ := R.opriv j a h
      exact ⟨h1, h2, by obtain ⟨o', ho', _⟩ := k.live a o ho; exact ⟨o', ho'⟩⟩
  · intro j a h
    by_cases e : j = i
    · subst e; exact .inr (oaNew a h).2.1
    · rw [oaOther j e] at h; exact .inl ⟨j, h⟩
  · intro j y k' c a hj hy hρ hv
    obtain ⟨a0, h1, h2, h3⟩ := R0.slots j y k' _ hy hρ
    have h1' := hold j y k' _ hy hj (h1.keep fun b o h => hk0.data b o h (fun x => x))
    have := VarAt.unique hv h1'
    cases this
    exact h2.exists

theorem Rp.new {env oa} {s : Shared} (R : Rp B F env oa ρ s) {a : Addr} (h : s.heap.get? a = none) : ¬ FW env oa a ∧ B.hB.get? a = none := by
  refine ⟨?_, ?_⟩
  · rintro (q | ⟨i, q⟩)
    · rcases q with q | q
      · obtain ⟨m, o, es, ep, ho, _⟩ := R.ns
        rw [q, ho] at h; cases h
      · obtain ⟨p, hp, rfl⟩ := List.mem_map.mp q.2
        obtain ⟨v, o, ho, _⟩ := R.cellsLive p.1 p.2 hp
        rw [ho] at h; cases h
    · obtain ⟨_, _, o, ho⟩ := R.opriv i a q
      rw [ho] at h; cases h
  · cases e : B.hB.get? a with
    | none => rfl
    | some o => rw [R.base a o e] at h; cases h

theorem storeVar {env oa A} {s0 s : Shared} {i : Nat} {x : Str} {k : Kd} {v : Value} {r : AV} {sl : Sl} {E : Value → Shared → Prop}
    (R0 : Rp B F env oa ρ s0) (hk0 : Kp B s0 s) (hr : VR B env oa s0 s v r) (hx : F.vars[i]? = some (x, k)) (hsl : r.sl = some sl) (hkd : k ≠ .fre) (hi : i < F.own) :
    wpAny (model B.prog B.w) A (storeName env x v) (fun _ s' => Rp B F env (oaSet oa i v r) (ρ.set i (some sl)) s' ∧ KpW B (Priv env) s s' ∧ OwnFrom s0 oa (oaSet oa i v r) ∧ FzOld F env ρ i s0 s'.heap) E s := by
  have R := R0.kp hk0
  obtain ⟨h1, h2, h3⟩ := F.at hx
  have hk : env.scope.kind = .function := by rw [R.scope]; exact F.fn
  have hl : env.kindOf x = some k.kind := by unfold Env.kindOf; rw [R.scope]; exact h1
  cases k with
  | fre => exact (hkd rfl).elim
  | loc =>
    obtain ⟨m, hn⟩ := R.ns
    obtain ⟨oL, hoL⟩ : ∃ o, s.heap.get? env.locals = some o := by obtain ⟨o, _, _, ho, _⟩ := hn; exact ⟨o, ho⟩
    rw [storeName_local hl (by rw [hk]; rfl)]
    refine nsSet_cls hn hoL fun h' oL' hn' hs' hoL' hcL => ?_
    refine R0.stored hx hsl hr hk0 (fun a h => R0.new h) (.inl rfl) (R.privNew _ (.inl rfl)) hs' rfl rfl ⟨_, hn'⟩ ?_ (fun y c hm => by obtain ⟨u, hu⟩ := R.cellsLive y c hm; exact ⟨u, hu.sameBut hs' (R.locCell y c hm)⟩) ⟨_, hn', if_pos rfl⟩ ?_ ?_
    · intro j y k' hy hne
      obtain ⟨c, u, hc, hcell, hw⟩ := R.cells j y k' hy hne
      exact ⟨c, u, hc, hcell.sameBut hs' (R.locCell y c (mem_of_lookup hc)), hw⟩
    · intro j y k' u hy hne hv
      cases k' with
      | loc =>
        obtain ⟨m1, hn1, hm1⟩ := hv
        obtain rfl := Ns.unique hn hn1
        refine ⟨_, hn', ?_⟩
        rw [if_neg (fun q => hne (F.inj hy (q ▸ hx)))]; exact hm1
      | cel => obtain ⟨c, hc, hcell⟩ := hv; exact ⟨c, hc, hcell.sameBut hs' (R.locCell y c (mem_of_lookup hc))⟩
      | fre => obtain ⟨c, hc, hcell⟩ := hv; exact ⟨c, hc, hcell.sameBut hs' (R.locCell y c (mem_of_lookup hc))⟩
    · obtain ⟨o, es, ep, ho, hd, _⟩ := hn
      obtain ⟨o', es', ep', ho', hd', _⟩ := hn'
      rw [hoL] at ho; cases ho
      rw [hoL'] at ho'; cases ho'
      exact ⟨_, _, hoL, hoL', (fun vs m q => by rw [hd] at q; cases q), (fun vs q => by rw [hd'] at q; cases q), fun _ => ⟨hcL, _, _, hd'⟩⟩
  | cel =>
    obtain ⟨c, u, hc, hcell, hcw⟩ := R.cells i x .cel hx (by decide)
    have hmem := mem_of_lookup hc
    refine wpAny_storeName_cell hk hl hc hcell fun h' hc' hs' => ?_
    refine R0.stored hx hsl hr hk0 (fun a h => R0.new h) (.inr ⟨hcw hi, List.mem_map.mpr ⟨(x, c), hmem, rfl⟩⟩) (R.privNew _ (.inr ⟨x, hmem⟩)) hs' rfl rfl ?_ ?_ ?_ ⟨c, hc, hc'⟩ ?_ ?_
    · obtain ⟨m, hn⟩ := R.ns; exact ⟨m, hn.sameBut hs' (Ne.symm (R.locCell x c hmem))⟩
    · intro j y k' hy hne
      obtain ⟨c', u', hc2, hcell2, hw2⟩ := R.cells j y k' hy hne
      by_cases q : c' = c
      · subst q; exact ⟨c', _, hc2, hc', hw2⟩
      · exact ⟨c', u', hc2, hcell2.sameBut hs' q, hw2⟩
    · intro y c' hm
      by_cases q : c' = c
      · subst q; exact ⟨_, hc'⟩
      · obtain ⟨u', hu⟩ := R.cellsLive y c' hm; exact ⟨u', hu.sameBut hs' q⟩
    · intro j y k' u' hy hne hv
      cases k' with
      | loc => obtain ⟨m1, hn1, hm1⟩ := hv; exact ⟨m1, hn1.sameBut hs' (Ne.symm (R.locCell x c hmem)), hm1⟩
      | cel =>
        obtain ⟨c2, hc2, hcell2⟩ := hv
        exact ⟨c2, hc2, hcell2.sameBut hs' fun q => hne (F.inj hy ((R.apart y x c (q ▸ hc2) hc) ▸ hx))⟩
      | fre =>
        obtain ⟨c2, hc2, hcell2⟩ := hv
        exact ⟨c2, hc2, hcell2.sameBut hs' fun q => hne (F.inj hy ((R.apart y x c (q ▸ hc2) hc) ▸ hx))⟩
    · obtain ⟨o, ho, hd⟩ := hcell
      obtain ⟨o', ho', hd'⟩ := hc'
      exact ⟨o, o', ho, ho', (fun vs m q => by rw [hd] at q; cases q), (fun vs q => by rw [hd'] at q; cases q), fun hz8 => by obtain ⟨es, ep, q⟩ := hz8; rw [hd] at q; cases q⟩

theorem SW.assign {x pos' value pos} {Q : Fl → List (Option Sl) → Prop} (i : Nat) {k : Kd} (hx : F.vars[i]? = some (x, k)) (hkd : k ≠ .fre) (hi : i < F.own)
    (h : EW B F X n ρ value fun r => ∃ sl, r.sl = some sl ∧ Q .next (ρ.set i (some sl)))
    (hs : ∀ env, swapsWith value (some (.Name x pos')) pos.line env = pure false := by intro _; rfl) : SW B F X n ρ (.Assign [.Name x pos'] value pos) Q :=
  .mk fun env oa A s hd R a => wpAny_Assign_Name (wpAny_mono (h.go env oa A s R a) (fun v s1 ⟨r, ⟨sl, hsl, q⟩, k1, x1⟩ =>
    wpAny_mono (storeVar R k1 x1 hx hsl hkd hi) (fun _ s2 hz10 => by obtain ⟨h1, h2, h3, _⟩ := hz10; exact ⟨.next, _, _, q, trivial, h1, (Kp.toW k1).trans (h2.mono fun _ x => .inl x) (fun _ x => .inl x), h3⟩) fun _ _ x => x) fun _ _ x => x.toW) (hs env)

end
end Mine
end

section
open PySem PySem.W PyProof.Rows
set_option Elab.async false
set_option maxRecDepth 100000
set_option linter.unusedVariables false
namespace Mine

section
variable {B : Bs} {W : Addr → Prop} {X : Str → Prop}

theorem KpW.upd {s0 s : Shared} (k : KpW B W s0 s) {b : Addr} (hb : s0.heap.get? b = none) (f : Obj → Obj) {t : Nat} : KpW B W s0 { s with heap := s.heap.update b f, toks := t } := by
  have ne : ∀ c o, s0.heap.get? c = some o → b ≠ c := fun c o e q => by subst q; rw [hb] at e; cases e
  refine ⟨fun c o e nw hf => ?_, fun c o e nw => ?_, fun c o vs n e c' d => ?_, fun c o e => ?_, k.gens, k.os⟩
  · exact (Heap.get?_update_other _ _ (ne c o e)).trans (k.keep c o e nw hf)
  · obtain ⟨sl, q⟩ := k.data c o e nw; exact ⟨sl, (Heap.get?_update_other _ _ (ne c o e)).trans q⟩
  · exact (Heap.get?_update_other _ _ (ne c o e)).trans (k.tups c o vs n e c' d)
  · obtain ⟨o', q, r⟩ := k.live c o e; exact ⟨o', (Heap.get?_update_other _ _ (ne c o e)).trans q, r⟩
theorem KpW.push {s0 s : Shared} (k : KpW B W s0 s) (o : Obj) {t : Nat} : KpW B W s0 { s with heap := s.heap.push o, toks := t } :=
  k.trans (push_kp (B := B) o) fun _ x => x.elim
theorem KpW.slots {s0 s : Shared} (k : KpW B W s0 s) {l : List Env} {h' : Heap} (hl : s.heap.FunFrames B.hB l) (hc : ∀ L ∈ l.filterMap (·.frame), ∃ o es ep, s.heap.get? L = some o ∧ o.cls = .type "frame" ∧ o.data = .dict es ep)
    (x : Heap.SlotsOnly (l.filterMap (·.frame)) s.heap h') {t : Nat} : KpW B W s0 { s with heap := h', toks := t } := by
  refine k.trans (W' := fun _ => False) ⟨fun b o e _ hf => ?_, fun b o e _ => ?_, fun b o vs n e c d => ?_, fun b o e => ?_, rfl, rfl⟩ fun _ x => x.elim
  · rw [x.2.1 b fun hm => ?_]; exact e
    obtain ⟨o1, es, ep, h1, h2, _⟩ := hc b hm
    rw [e] at h1; cases h1
    rcases hf with q | q
    · exact q h2
    · rw [(hl.mem hm).1] at q; cases q
  · exact x.2.2 b o e
  · rw [x.2.1 b fun hm => ?_]; exact e
    obtain ⟨o1, es, ep, h1, h2, h3⟩ := hc b hm
    rw [e] at h1; cases h1
    rw [h2] at c; exact absurd c (by decide)
  · obtain ⟨sl, q⟩ := x.2.2 b o e; exact ⟨_, q, fun y => y, fun y => ⟨rfl, y⟩⟩

noncomputable def Fly1 (B : Bs) (s : Shared) (cls : Value) (a : Addr) (h : Heap) : Prop :=
  s.heap.get? a = none ∧ ∃ o vs, h.get? a = some o ∧ o.cls = cls ∧ o.data = .fields vs ∧ 5 ≤ vs.size ∧
    ∃ T oT ts, vs[1]? = some (.ref T) ∧ T ≠ a ∧ s.heap.get? T = none ∧ h.get? T = some oT ∧ oT.cls = .type "traceback" ∧ oT.data = .fields ts ∧ 4 ≤ ts.size
theorem Fly1.fly {s cls a h} (x : Fly1 B s cls a h) : Fly B s cls a h := let ⟨h1, o, vs, h2, h3, h4, h5, h6⟩ := x; ⟨h1, o, vs, h2, h3, h4, h5, .inr h6⟩

structure Fr1 (B : Bs) (A : Around) (env : Env) (s : Shared) : Prop where
  ex : ∃ l, A.frames = some (env :: l) ∧ s.heap.FunFrames B.hB (env :: l) ∧ ∀ L ∈ (env :: l).filterMap (·.frame), ∃ o es ep, s.heap.get? L = some o ∧ o.cls = .type "frame" ∧ o.data = .dict es ep

theorem newEntryFly {A : Around} {env : Env} {s0 s : Shared} {cls : Value} {a L : Addr} {o : Obj} {vs : Array Value} {head : Value} {hn : Bool} {E : Value → Shared → Prop}
    (hf : env.frame = some L) (fr : Fr1 B A env s) (k : KpW B W s0 s) (h0 : s0.heap.get? a = none) (ho : s.heap.get? a = some o) (hc : o.cls = cls) (hd : o.data = .fields vs) (hsz : 5 ≤ vs.size) :
    wpAny (model B.prog B.w) A (do let fo ← frameOf env; let pl ← entryPlaceOf L hn; let b ← EntryCells.newEntry head fo .none (rawInt L) .none pl; setField (.ref a) 1 b)
      (fun _ s' => KpW B W s0 s' ∧ Fly1 B s0 cls a s'.heap) E s := by
  obtain ⟨l, h1, h2, h3⟩ := fr.ex
  refine wpAny_bind (wpAny_frameOf_fun h1 h2 hf fun h' hs => ?_)
  have k1 : KpW B W s0 { s with heap := h' } := k.slots h2 h3 hs
  have hna : a ∉ (env :: l).filterMap (·.frame) := fun hm => by
    obtain ⟨o1, es, ep, q1, _, q2⟩ := h3 a hm
    rw [ho] at q1; cases q1
    rw [hd] at q2; cases q2
  have ho1 : h'.get? a = some o := (hs.2.1 a hna).trans ho
  refine wpAny_bind (wpAny_entryPlaceOf fun pl hpl => ?_)
  unfold EntryCells.newEntry newFields
  refine wpAny_bind (wpAny_newObj_type ?_ (hpl.sizeOk5 _ _ _ _ _))
  have k2 := k1.push { cls := .type "traceback", dict := none, data := .fields ([head, .ref L, .none, rawInt L, .none] ++ (if pl.isEmpty then List.replicate 6 Value.none else pl)).toArray } (t := s.toks)
  have ho2 := Heap.get?_push_of_some (h := h') { cls := .type "traceback", dict := none, data := .fields ([head, .ref L, .none, rawInt L, .none] ++ (if pl.isEmpty then List.replicate 6 Value.none else pl)).toArray } ho1
  refine wpAny_setField ho2 hd (by (clear hna; omega)) ?_
  have hT0 : s0.heap.get? h'.objs.size = none := k1.fresh (fresh_size { s with heap := h' })
  have hne : h'.objs.size ≠ a := Nat.ne_of_gt (Heap.lt_size ho1)
  refine ⟨k2.upd h0 _, h0, _, _, Heap.get?_update_self _ ho2 (Obj.isFreed_of_fields (Obj.data_mapFields hd _)), (Obj.cls_mapFields ..).trans hc, Obj.data_mapFields hd _, by simpa using hsz, h'.objs.size, _, _, ?_, hne, hT0,
    (Heap.get?_update_other _ _ hne.symm).trans (Heap.get?_push_size _ rfl), rfl, rfl, ?_⟩
  · simp [Array.getElem?_setIfInBounds, show 1 < vs.size by (clear hne hna; omega)]
  · simp only [List.size_toArray, List.length_append, List.length_cons, List.length_nil]; (clear hne hna hsz; omega)

theorem noteFly {A : Around} {env : Env} {s0 s : Shared} {cls : Value} {a L : Addr} {E : Value → Shared → Prop} (hf : env.frame = some L) (fr : Fr1 B A env s) (k : KpW B W s0 s) (f : Fly B s0 cls a s.heap) :
    wpAny (model B.prog B.w) A (noteFrame (.ref a) env) (fun _ s' => KpW B W s0 s' ∧ Fly1 B s0 cls a s'.heap) E s := by
  obtain ⟨h0, o, vs, ho, hc, hd, hsz, hT⟩ := f
  unfold noteFrame
  simp only [hf]
  rcases hT with hT | ⟨T, oT, ts, q1, q2, q3, q4, q5, q6, q7⟩
  · refine wpAny_bind (wpAny_field ho hd hT ?_)
    simp only [bne_self_eq_false, Bool.false_eq_true, if_false]
    exact newEntryFly hf fr k h0 ho hc hd hsz
  · refine wpAny_bind (wpAny_field ho hd q1 ?_)
    rw [if_pos (show (Value.ref T != Value.none) = true from by simp)]
    obtain ⟨x, hx⟩ : ∃ x, ts[3]? = some x := ⟨ts[3], Array.getElem?_eq_getElem (by (clear hsz; omega))⟩
    refine wpAny_bind (wpAny_field q4 q6 hx ?_)
    by_cases e : (x == rawInt L) = true
    · rw [if_pos e]
      exact wpAny_pure ⟨k, h0, o, vs, ho, hc, hd, hsz, T, oT, ts, q1, q2, q3, q4, q5, q6, q7⟩
    · rw [if_neg e]
      refine wpAny_bind (wpAny_setField q4 q6 (by (clear e hsz; omega)) ?_)
      have hTn : T ∉ (env :: fr.ex.choose).filterMap (·.frame) := fun hm => by
        obtain ⟨o1, es, ep, r1, _, r2⟩ := fr.ex.choose_spec.2.2 T hm
        rw [q4] at r1; cases r1
        rw [q6] at r2; cases r2
      have fr' : Fr1 B A env { s with heap := s.heap.update T (Obj.mapFields (·.setIfInBounds 3 .none)) } := by
        obtain ⟨l, r1, r2, r3⟩ := fr.ex
        have nf : ∀ L ∈ (env :: l).filterMap (·.frame), T ≠ L := fun L hm q => by
          obtain ⟨o1, es, ep, p1, _, p2⟩ := r3 L hm
          subst q; rw [q4] at p1; cases p1; rw [q6] at p2; cases p2
        refine ⟨l, r1, r2.of_keeps fun b ob hb hnf => ?_, fun L hm => ?_⟩
        · exact ⟨ob, (Heap.get?_update_other _ _ (fun q => by subst q; rw [q4] at hb; cases hb; exact hnf _ q6)).trans hb, rfl⟩
        · obtain ⟨o1, es, ep, p1, p2, p3⟩ := r3 L hm
          exact ⟨o1, es, ep, (Heap.get?_update_other _ _ (nf L hm)).trans p1, p2, p3⟩
      have ho' : (s.heap.update T (Obj.mapFields (·.setIfInBounds 3 .none))).get? a = some o := (Heap.get?_update_other _ _ q2).trans ho
      exact newEntryFly (s := { s with heap := s.heap.update T (Obj.mapFields (·.setIfInBounds 3 .none)) }) hf fr' (k.upd q3 _ (t := s.toks)) h0 ho' hc hd hsz

theorem flightFly {A : Around} {s0 s : Shared} {cls : Value} {a : Addr} {E : Value → Shared → Prop} {fo : Option Addr} (k : KpW B W s0 s) (f : Fly1 B s0 cls a s.heap) :
    wpAny (model B.prog B.w) A (setFlight (.ref a) fo) (fun _ s' => KpW B W s0 s' ∧ Fly1 B s0 cls a s'.heap) E s := by
  obtain ⟨h0, o, vs, ho, hc, hd, hsz, T, oT, ts, q1, q2, q3, q4, q5, q6, q7⟩ := f
  unfold setFlight
  refine wpAny_bind (wpAny_field ho hd q1 ?_)
  rw [if_pos (show (Value.ref T != Value.none) = true from by simp)]
  refine wpAny_setField q4 q6 (by (clear hsz; omega)) ⟨k.upd q3 _, h0, o, vs, (Heap.get?_update_other _ _ q2).trans ho, hc, hd, hsz, T, _, _, q1, q2, q3, Heap.get?_update_self _ q4 (Obj.isFreed_of_fields (Obj.data_mapFields q6 _)), (Obj.cls_mapFields ..).trans q5, Obj.data_mapFields q6 _, by simpa using q7⟩

theorem leaveFly {A : Around} {env : Env} {s0 s : Shared} {cls : Value} {a L : Addr} {E : Value → Shared → Prop} (hf : env.frame = some L) (fr : Fr1 B A env s) (k : KpW B W s0 s) (f : Fly B s0 cls a s.heap) :
    wpAny (model B.prog B.w) A (leaving env (.ref a)) (fun _ s' => KpW B W s0 s' ∧ Fly1 B s0 cls a s'.heap) E s := by
  unfold leaving
  exact wpAny_bind (wpAny_mono (noteFly hf fr k f) (fun _ s' hz1 => by obtain ⟨h1, h2⟩ := hz1; exact flightFly h1 h2) fun _ _ x => x)
end
end Mine
end

section
open PySem PySem.W PyProof.Rows PySem.Calls
set_option Elab.async false
set_option maxRecDepth 100000
set_option linter.unusedVariables false
namespace Mine

structure InF (s₀ : Shared) (L : Addr) (m : Str → Option Value) (cs : List (Str × Addr)) (cm : Str → Option Value) (s : Shared) : Prop where
  c : InCallC s₀ L m cs cm s
  f : ∃ o, s.heap.get? L = some o ∧ o.cls = .type "frame"

section
variable {M : Model} {A : Around} {E : Value → Shared → Prop} {s₀ s : Shared} {m cm : Str → Option Value} {env : Env}
theorem InF.loc {n : Str} {v : Value} {Q : Unit → Shared → Prop} (x : InF s₀ env.locals m env.cells cm s) (hk : env.scope.kind = .function) (hl : env.kindOf n = some .local)
    (h : ∀ s', InF s₀ env.locals (fun y => if y = n then some v else m y) env.cells cm s' → Q () s') : wpAny M A (storeName env n v) Q E s := by
  obtain ⟨o, ho, hc⟩ := x.f
  have y := x.c
  rw [storeName_local hl (by rw [hk]; rfl)]
  refine nsSet_cls y.toInCall.ns ho fun h' o' hn' hs' ho' hc' => h _ ⟨⟨⟨?_, hn', fun b ob e => ?_, y.toInCall.fresh⟩, fun k c hq => ?_, y.apart, y.above⟩, o', ho', hc'.trans hc⟩
  · obtain ⟨h₁, tk, rfl⟩ := y.toInCall.same; exact ⟨h', _, rfl⟩
  · exact hs'.extBut b ob (Nat.ne_of_lt (Nat.lt_of_lt_of_le (Heap.lt_size e) y.toInCall.fresh)) (y.toInCall.keep b ob e)
  · exact (y.cell k c hq).sameBut hs' (Nat.ne_of_gt (y.above k c (mem_of_lookup hq)))
theorem InF.cel {n : Str} {c : Addr} {v : Value} {Q : Unit → Shared → Prop} (x : InF s₀ env.locals m env.cells cm s) (hk : env.scope.kind = .function) (hl : env.kindOf n = some .cell)
    (hc : env.cells.lookup n = some c) (h : ∀ s', InF s₀ env.locals m env.cells (fun y => if y = n then some v else cm y) s' → Q () s') : wpAny M A (storeName env n v) Q E s := by
  obtain ⟨o, ho, ho2⟩ := x.f
  have y := x.c
  have hLc := y.above n c (mem_of_lookup hc)
  refine wpAny_storeName_cell hk hl hc (y.cell n c hc) fun h' hc' hs' => h _ ⟨⟨⟨?_, y.toInCall.ns.sameBut hs' (Nat.ne_of_lt hLc), fun b ob e => ?_, y.toInCall.fresh⟩, fun k c' hk' => ?_, y.apart, y.above⟩, o, (hs'.2 _ (Nat.ne_of_lt hLc)).trans ho, ho2⟩
  · obtain ⟨h₁, tk, rfl⟩ := y.toInCall.same; exact ⟨h', _, rfl⟩
  · exact hs'.extBut b ob (Nat.ne_of_lt (Nat.lt_trans (Nat.lt_of_lt_of_le (Heap.lt_size e) y.toInCall.fresh) hLc)) (y.toInCall.keep b ob e)
  · by_cases hkn : k = n
    · subst hkn
      rw [hc] at hk'; cases hk'
      simpa using hc'
    · rw [if_neg hkn]
      exact (y.cell k c' hk').sameBut hs' fun e => hkn (name_of_addr y.apart (mem_of_lookup hk') (e ▸ mem_of_lookup hc))
theorem InF.binds (f : Str × Value → PUnit → Sem (ForInStep PUnit)) (hf : ∀ n v u, f (n, v) u = (do storeName env n v; pure (.yield ⟨⟩))) (hk : env.scope.kind = .function) :
    ∀ (bs : List (Str × Value)) (m cm : Str → Option Value) (s : Shared) (Q : PUnit → Shared → Prop), InF s₀ env.locals m env.cells cm s →
      (∀ x ∈ bs, env.kindOf x.1 = some .local ∨ (env.kindOf x.1 = some .cell ∧ (env.cells.lookup x.1).isSome = true)) →
      (∀ s', InF s₀ env.locals (bindL env.kindOf bs m) env.cells (bindC env.kindOf bs cm) s' → Q ⟨⟩ s') → wpAny M A (forIn bs ⟨⟩ f) Q E s := by
  intro bs
  induction bs with
  | nil => intro m cm s Q x _ h; rw [List.forIn_nil]; exact wpAny_pure (h s x)
  | cons p r ih =>
    intro m cm s Q x hkind h
    obtain ⟨n, v⟩ := p
    rw [List.forIn_cons, hf]
    have hr : ∀ y ∈ r, env.kindOf y.1 = some .local ∨ (env.kindOf y.1 = some .cell ∧ (env.cells.lookup y.1).isSome = true) := fun y hy => hkind y (List.mem_cons_of_mem _ hy)
    rcases hkind (n, v) List.mem_cons_self with hl | ⟨hl, hc⟩
    · refine wpAny_bind (wpAny_bind (x.loc hk hl fun s' x' => wpAny_pure (ih _ _ s' Q x' hr fun s'' x'' => h s'' ?_)))
      simpa only [bindL, bindC, if_pos hl] using x''
    · obtain ⟨c, hc⟩ := Option.isSome_iff_exists.mp hc
      have hnl : ¬ env.kindOf n = some .local := by rw [hl]; decide
      refine wpAny_bind (wpAny_bind (x.cel hk hl hc fun s' x' => wpAny_pure (ih _ _ s' Q x' hr fun s'' x'' => h s'' ?_)))
      simpa only [bindL, bindC, if_neg hnl] using x''
theorem newEnvF {scope : Scope} {globals : Addr} {bs : List (Str × Value)} {qual : Str} {func : Option Addr} {code : Value} {builtins : Addr} {Q : Env → Shared → Prop}
    (hk : scope.kind = .function)
    (hkind : ∀ x ∈ bs, scope.names.lookup x.1 = some .local ∨ (scope.names.lookup x.1 = some .cell ∧ ((cellsFrom (s.heap.objs.size + 1) scope.names []).lookup x.1).isSome = true))
    (hQ : ∀ env, env = newEnv scope s.heap.objs.size globals (cellsFrom (s.heap.objs.size + 1) scope.names []) qual func code none builtins →
      ∀ s', InF s env.locals (bindL env.kindOf bs fun _ => none) env.cells (bindC env.kindOf bs fun _ => none) s' → Q env s') :
    wpAny M A (newFunctionEnv scope globals [] bs qual func code none builtins) Q E s := by
  simp only [newFunctionEnv, Option.isSome_none, Bool.false_eq_true, if_false]
  refine wpAny_bind (wpAny_alloc ?_)
  refine wpAny_bind (wpAny_layCells _ (fun name kind cells => by cases hkc : kind == NameKind.cell <;> simp [hkc]) _ _ _ _ ?_)
  have ok := cellsFrom_ok scope.names (s.heap.push { cls := .type "frame", data := .dict #[] }) (s.heap.objs.size + 1) [] ⟨fun _ _ hm => (nomatch hm), List.Pairwise.nil⟩ (by rw [Heap.size_push]; exact Nat.le_refl _)
  rw [Heap.size_push] at ok
  rw [show ({ s with heap := s.heap.push { cls := .type "frame", data := .dict #[] } } : Shared).heap.objs.size = s.heap.objs.size + 1 from Heap.size_push ..]
  have hL : (pushCells (s.heap.push { cls := .type "frame", data := .dict #[] }) scope.names).get? s.heap.objs.size = some { cls := .type "frame", data := .dict #[] } := pushCells_keeps _ _ _ _ (Heap.get?_push_size _ rfl)
  refine wpAny_bind (InF.binds (s₀ := s) (env := newEnv scope s.heap.objs.size globals (cellsFrom (s.heap.objs.size + 1) scope.names []) qual func code none builtins)
    _ (fun _ _ _ => rfl) hk bs (fun _ => none) (fun _ => none) _ _
    ⟨⟨⟨⟨_, _, rfl⟩, (Heap.Ns.new s.heap (.type "frame")).keeps (pushCells_keeps _ _), fun b o e => pushCells_keeps _ _ b o (Heap.get?_push_of_some _ e), Nat.le_refl _⟩,
      fun n c hn => (ok.empty n c (mem_of_lookup hn)).1, ok.apart, fun n c hm => (ok.empty n c hm).2⟩, _, hL, rfl⟩ hkind fun s' x => wpAny_pure (hQ _ rfl s' x))
end

inductive Ag where
  | im (d : D)
  | ct (c : Cont)
inductive Rs where
  | im (d : D)
  | fr (c : Cont)
noncomputable def Ag.sl : Ag → Sl
  | .im d => .im d
  | .ct c => .fz c
noncomputable def AV.ag : AV → Ag
  | .im d => .im d
  | .ct _ c => .ct c
noncomputable def Rs.av : Rs → AV
  | .im d => .im d
  | .fr c => .ct .fr c

section
variable {B : Bs} {F : Fi} {X : Str → Prop} {n : Nat} {ρ : List (Option Sl)}

noncomputable def AgR (B : Bs) (h : Heap) (v : Value) : Ag → Prop
  | .im d => Im h v d
  | .ct c => ∃ a, v = .ref a ∧ ContAt B h a c
theorem VR.ag {env oa} {s s' : Shared} {v : Value} {r : AV} (x : VR B env oa s s' v r) : AgR B s'.heap v r.ag := by
  cases r with
  | im d => exact x
  | ct m c => exact x.cont
noncomputable def RsR (B : Bs) (s s' : Shared) (v : Value) : Rs → Prop
  | .im d => Im s'.heap v d
  | .fr c => ∃ a, v = .ref a ∧ ContAt B s'.heap a c ∧ s.heap.get? a = none
theorem RsR.vr {env oa} {s s' : Shared} {v : Value} {q : Rs} (x : RsR B s s' v q) : VR B env oa s s' v q.av := by
  cases q <;> exact x

noncomputable def CallPo (B : Bs) (X : Str → Prop) (Q : Rs → Prop) (s : Shared) : Result → Shared → Prop
  | .ok (.ret v), s' => ∃ q, Q q ∧ Kp B s s' ∧ RsR B s s' v q
  | .ok _, _ => False
  | .error e, s' => EP B X s e s'
noncomputable def Spec (B : Bs) (f : Str) (X : Str → Prop) (n : Nat) (ags : List Ag) (Q : Rs → Prop) : Prop :=
  ∃ fa o fd, B.mg f = some (.ref fa) ∧ B.hB.get? fa = some o ∧ o.data = .func fd ∧
    ∀ A s vs, Bas B s → Ar B A n s → vs.length = ags.length → (∀ (i : Nat) v g, vs[i]? = some v → ags[i]? = some g → AgR B s.heap v g) →
      codeAny (model B.prog B.w) A (.call (.ref fa) ⟨vs, []⟩) (CallPo B X Q s) s
theorem Spec.mono {f ags} {X' : Str → Prop} {m : Nat} {Q Q' : Rs → Prop} (h : Spec B f X n ags Q) (hm : n ≤ m) (q : ∀ r, Q r → Q' r) (hX : ∀ c, X c → X' c) : Spec B f X' m ags Q' := by
  obtain ⟨fa, o, fd, h1, h2, h3, h4⟩ := h
  refine ⟨fa, o, fd, h1, h2, h3, fun A s vs b a hl hv => codeAny_mono (h4 A s vs b (a.le hm) hl hv) fun r s' x => ?_⟩
  cases r with
  | error e => obtain ⟨c, cv, a, h5, h6⟩ := x; exact ⟨c, cv, a, hX c h5, h6⟩
  | ok r => cases r with
    | ret v => obtain ⟨r, h5, h6⟩ := x; exact ⟨r, q r h5, h6⟩
    | next => exact x.elim
    | brk => exact x.elim
    | cont => exact x.elim

theorem EW.call {f : Str} {p1 : Pos} {e : Expr} {rest : List Expr} {pos : Pos} {Q : AV → Prop} (hk : F.scope.names.lookup f = some .globalImplicit)
    (h : LW B F X n ρ (e :: rest) fun rs => Spec B f X n (rs.map AV.ag) fun q => Q q.av)
    (hf0 : ∃ fa o fd, B.mg f = some (.ref fa) ∧ B.hB.get? fa = some o ∧ o.data = .func fd)
    (he : ∀ env, starEach (e :: rest) env = (false, eval e env) :: starEach rest env := by intro _; rfl) (hd : (f == ("__debug__" : Str)) = false := by decide) :
    EW B F X n ρ (.Call (.Name f p1) (e :: rest) [] pos) Q := by
  refine .mk ?_
  intro env oa A s R a
  obtain ⟨fa, o, fd, h1, h2, h3⟩ := hf0
  have hkf : env.scope.kind = .function := by rw [R.scope]; exact F.fn
  have hx : env.kindOf f = some .globalImplicit := by unfold Env.kindOf; rw [R.scope]; exact hk
  have ks : ∀ {s' : Shared}, (∀ b o, B.hB.get? b = some o → s'.heap.get? b = some o) → s'.heap.Ns env.globals B.mg := fun q => by rw [R.globals]; exact B.g.keeps q
  refine wpAny_Call_ofName (Name_function_global hkf hx (loadGlobal_global (ks R.base) h1 ?_) hd)
  show wpAny _ _ (callWith pos (.ref fa) [] (backTo pos (starEach (e :: rest) env)) []) _ _ s
  refine callWith_def h3 (wpAny_mono (h.go env oa A s pos R a) (fun vs s1 hz1 => ?_) fun _ _ x => x) (he env)
  obtain ⟨rs, sp, k1, hl, hv⟩ := hz1
  have R1 := R.kp k1
  obtain ⟨fa', o', fd', g1, g2, g3, g4⟩ := sp
  rw [h1] at g1; cases g1
  refine ⟨R1.base _ _ h2, wpAny_call (codeAny_mono (g4 A s1 vs R1.base (a.kp k1) (by simp [hl]) fun i v g q1 q2 => ?_) fun r s2 x => ?_)⟩
  · rw [List.getElem?_map] at q2
    cases hq : rs[i]? with
    | none => rw [hq] at q2; cases q2
    | some r => rw [hq] at q2; cases q2; exact (hv i v r q1 hq).ag
  · match r, x with
    | .ok (.ret v), ⟨r, h5, h6, h7⟩ => exact ⟨r.av, h5, k1.trans h6, (RsR.vr h7).back k1⟩
    | .ok .next, x => exact x.elim
    | .ok .brk, x => exact x.elim
    | .ok .cont, x => exact x.elim
    | .error e, x => exact EP.back k1 x
end

noncomputable def RetOk (Q : Rs → Prop) : Fl → List (Option Sl) → Prop
  | .ret (.im d), _ => Q (.im d)
  | .ret (.ct .fr c), _ => Q (.fr c)
  | .ret (.ct (.ow _) c), _ => Q (.fr c)
  | .ret (.ct .fz _), _ => False
  | .next, _ => Q (.im .none)
  | _, _ => False

structure FnAt (B : Bs) (f : Str) (names : List Str) (body : List Stmt) (scope : Scope) : Prop where
  ex : ∃ fa o fd, B.mg f = some (.ref fa) ∧ B.hB.get? fa = some o ∧ o.data = .func fd ∧ fd.body = .stmts body ∧ fd.scope = scope ∧ fd.globals = mainGlobals ∧ fd.closure = [] ∧ fd.builtins = builtinsNs ∧
    B.hB.CodeRec fd.code fd.qualname ∧ ∀ vs, vs.length = names.length → bindArgs fd ⟨vs, []⟩ = pure (names.zip vs)
  co : scope.isCoroutine = false
  gen : scope.isGenerator = false
  cells : ((cellsFrom 0 scope.names []).map (·.1)).Nodup
theorem FnAt.some {B : Bs} {f names body scope} (h : FnAt B f names body scope) : ∃ fa o fd, B.mg f = some (.ref fa) ∧ B.hB.get? fa = some o ∧ o.data = .func fd :=
  by obtain ⟨fa, o, fd, h1, h2, h3, _⟩ := h.ex; exact ⟨fa, o, fd, h1, h2, h3⟩

theorem bindL_lookup {kindOf : Str → Option NameKind} {x : Str} (hx : kindOf x = some .local) : ∀ (names : List Str) (vs : List Value) (m : Str → Option Value), names.Nodup → vs.length = names.length →
    ∀ (j : Nat), names[j]? = some x → ∀ v, vs[j]? = some v → bindL kindOf (names.zip vs) m x = some v
  | [], _, _, _, _, j, h, _, _ => by simp at h
  | y :: ys, [], _, _, hl, _, _, _, _ => by simp at hl
  | y :: ys, u :: us, m, nd, hl, 0, h, v, hv => by
    simp at h hv; subst h; subst hv
    simp only [List.zip_cons_cons, bindL, hx, if_true]
    have : ∀ (names : List Str) (vs : List Value) (m : Str → Option Value), y ∉ names → bindL kindOf (names.zip vs) m y = m y := by
      intro names
      induction names with
      | nil => intro vs m _; rfl
      | cons z zs ih =>
        intro vs m hn
        simp only [List.mem_cons, not_or] at hn
        cases vs with
        | nil => rfl
        | cons w ws =>
          simp only [List.zip_cons_cons, bindL]
          rw [ih ws _ hn.2]
          split
          · simp [hn.1]
          · rfl
    rw [this ys us _ (List.nodup_cons.mp nd).1]; simp
  | y :: ys, u :: us, m, nd, hl, j + 1, h, v, hv => by
    simp only [List.zip_cons_cons, bindL]
    exact bindL_lookup hx ys us _ (List.nodup_cons.mp nd).2 (by simpa using hl) j (by simpa using h) v (by simpa using hv)
theorem bindC_lookup {kindOf : Str → Option NameKind} {x : Str} (hx : kindOf x ≠ some .local) : ∀ (names : List Str) (vs : List Value) (m : Str → Option Value), names.Nodup → vs.length = names.length →
    ∀ (j : Nat), names[j]? = some x → ∀ v, vs[j]? = some v → bindC kindOf (names.zip vs) m x = some v
  | [], _, _, _, _, j, h, _, _ => by simp at h
  | y :: ys, [], _, _, hl, _, _, _, _ => by simp at hl
  | y :: ys, u :: us, m, nd, hl, 0, h, v, hv => by
    simp at h hv; subst h; subst hv
    simp only [List.zip_cons_cons, bindC, if_neg hx]
    have : ∀ (names : List Str) (vs : List Value) (m : Str → Option Value), y ∉ names → bindC kindOf (names.zip vs) m y = m y := by
      intro names
      induction names with
      | nil => intro vs m _; rfl
      | cons z zs ih =>
        intro vs m hn
        simp only [List.mem_cons, not_or] at hn
        cases vs with
        | nil => rfl
        | cons w ws =>
          simp only [List.zip_cons_cons, bindC]
          rw [ih ws _ hn.2]
          split
          · rfl
          · simp [hn.1]
    rw [this ys us _ (List.nodup_cons.mp nd).1]; simp
  | y :: ys, u :: us, m, nd, hl, j + 1, h, v, hv => by
    simp only [List.zip_cons_cons, bindC]
    exact bindC_lookup hx ys us _ (List.nodup_cons.mp nd).2 (by simpa using hl) j (by simpa using h) v (by simpa using hv)

noncomputable def start (F : Fi) (ags : List Ag) : List (Option Sl) := (ags.map fun g => some g.sl) ++ List.replicate (F.vars.length - ags.length) none

theorem bodyCore {B : Bs} {F : Fi} {X : Str → Prop} {n : Nat} {names : List Str} {body : List Stmt} {fa : Addr} {o : Obj} {fd} {ρ0 : List (Option Sl)} {oa0 : Nat → Option Addr} {Q : Fl → List (Option Sl) → Prop} {A : Around} {s : Shared} {vs : List Value} {P : Result → Shared → Prop}
    (h2 : B.hB.get? fa = some o) (h3 : o.data = .func fd) (hb : fd.body = .stmts body) (hs : fd.scope = F.scope) (hg : fd.globals = mainGlobals) (hc : fd.closure = []) (hbu : fd.builtins = builtinsNs)
    (hcd : B.hB.CodeRec fd.code fd.qualname) (hbind : ∀ vs, vs.length = names.length → bindArgs fd ⟨vs, []⟩ = pure (names.zip vs)) (co : F.scope.isCoroutine = false) (gen : F.scope.isGenerator = false) (cells : ((cellsFrom 0 F.scope.names []).map (·.1)).Nodup)
    (hv : (F.vars.map (·.1)).take names.length = names) (hnf : (F.vars.all fun x => decide (x.2 ≠ .fre)) = true)
    (bas : Bas B s) (ar : Ar B A (n + 1) s) (hlen' : vs.length = names.length)
    (hoa : ∀ i a, oa0 i = some a → B.hB.get? a = none ∧ ∃ o, s.heap.get? a = some o) (hinj : ∀ i j a, oa0 i = some a → oa0 j = some a → i = j)
    (hslots : ∀ (env : Env) (h' : Heap), Grow s.heap h' → (∀ b o, s.heap.get? b = some o → h'.get? b = some o) → (∀ b, Priv env b → s.heap.get? b = none) → (∀ (j : Nat) x k v, F.vars[j]? = some (x, k) → vs[j]? = some v → VarAt env h' x k v) →
      ∀ (j : Nat) x k sl, F.vars[j]? = some (x, k) → ρ0[j]? = some (some sl) → SlotOk B env oa0 h' j x k sl)
    (h : SWs B F X n ρ0 body Q)
    (hret : ∀ env oa' ρ' fl v s', Q fl ρ' → Rp B F env oa' ρ' s' → KpW B (fun b => ∃ i, oa0 i = some b) s s' → OwnFrom s oa0 oa' → ((fl = .next ∧ v = .none) ∨ ∃ r, fl = .ret r ∧ VR B env oa' s s' v r) → P (.ok (.ret v)) s')
    (hbad : ∀ ρ', ¬ Q .brk ρ' ∧ ¬ Q .cont ρ') (herr : ∀ e s', EPW B (fun b => ∃ i, oa0 i = some b) X s e s' → P (.error e) s') :
    codeAny (model B.prog B.w) A (.call (.ref fa) ⟨vs, []⟩) P s := by
  have hk : fd.scope.kind = .function := by rw [hs]; exact F.fn
  refine codeAny_call_function (by have := ar.depth; (clear hlen'; omega)) (bas _ _ h2) h3 (hs ▸ co) (hs ▸ gen) hb (hcd.keeps bas) ?_
  rw [hbind vs hlen']
  refine wpAny_pure ?_
  rw [hc]
  -- the parameters' places
  have nd : names.Nodup := by rw [← hv]; exact List.Sublist.nodup (List.take_sublist _ _) F.nodup
  have place : ∀ (j : Nat) x, names[j]? = some x → ∃ k, F.vars[j]? = some (x, k) := fun j x hj => by
    rw [← hv, List.getElem?_take] at hj
    split at hj
    · rw [List.getElem?_map] at hj
      cases hq : F.vars[j]? with
      | none => rw [hq] at hj; cases hj
      | some p => rw [hq] at hj; obtain ⟨y, k⟩ := p; cases hj; exact ⟨k, rfl⟩
    · cases hj
  have nofre : ∀ (j : Nat) x k, F.vars[j]? = some (x, k) → k ≠ .fre := fun j x k hj => by
    have := List.all_eq_true.mp hnf _ (List.mem_of_getElem? hj); simpa using this
  have cellAt : ∀ (m j : Nat) x, F.vars[j]? = some (x, .cel) → ((cellsFrom m fd.scope.names []).lookup x).isSome = true := fun m j x hj =>
    cellsFrom_some _ _ _ (.inl (by rw [hs]; exact (F.at hj).1))
  refine newEnvF hk (fun p hp => ?_) fun env he s1 xf => ?_
  · obtain ⟨j, hj⟩ := List.mem_iff_getElem?.mp hp
    rw [List.getElem?_zip_eq_some] at hj
    obtain ⟨k, hk'⟩ := place j p.1 hj.1
    cases k with
    | loc => exact .inl (by rw [hs]; exact (F.at hk').1)
    | cel => exact .inr ⟨by rw [hs]; exact (F.at hk').1, cellAt _ j p.1 hk'⟩
    | fre => exact (nofre j p.1 _ hk' rfl).elim
  have x := xf.c
  have kk := x.toInCall.keep
  refine ⟨(B.lim.keeps bas).keeps kk, codeAny_func ?_⟩
  obtain ⟨h', tk, rfl, _⟩ := x.done
  have hloc : env.locals = s.heap.objs.size := by rw [he]; rfl
  have hfr : env.frame = some env.locals := by rw [he]; rfl
  have hsc : env.scope = F.scope := by rw [he]; exact hs
  have hgl : env.globals = mainGlobals := by rw [he]; exact hg
  have hbt : env.builtins = builtinsNs := by rw [he]; exact hbu
  have hcl : env.cells = cellsFrom (s.heap.objs.size + 1) fd.scope.names [] := by rw [he]; rfl
  have k01 : Kp B s { s with heap := h', toks := tk } := Kp.of kk
  have newAt : ∀ a, s.heap.objs.size ≤ a → s.heap.get? a = none := fun a ha => by
    cases e : s.heap.get? a with
    | none => rfl
    | some o => exact absurd (Heap.lt_size e) (Nat.not_lt.mpr ha)
  have newB : ∀ a, s.heap.get? a = none → B.hB.get? a = none := fun a ha => by
    cases e : B.hB.get? a with
    | none => rfl
    | some o => rw [bas a o e] at ha; cases ha
  have privS : ∀ a, Priv env a → s.heap.get? a = none := by
    rintro a (q | q)
    · exact newAt a (by rw [q, hloc]; exact Nat.le_refl _)
    · obtain ⟨p, hp, rfl⟩ := List.mem_map.mp q.2
      have := x.above p.1 p.2 hp
      rw [hloc] at this
      exact newAt _ (Nat.le_of_lt this)
  have cnames : (env.cells.map (·.1)).Nodup := by rw [hcl]; exact cellsFrom_names fd.scope.names 0 (s.heap.objs.size + 1) [] [] rfl ▸ (hs ▸ cells)
  have R : Rp B F env oa0 ρ0 { s with heap := h', toks := tk } := by
    refine ⟨fun b o e => kk b o (bas b o e), hsc, hgl, hbt, ⟨_, x.toInCall.ns⟩, fun j y k hj hne => ?_, fun y z c hy hz => ?_, fun y c hm => ?_, fun y c hm => ?_, ?_, hslots env h' k01.tups kk privS ?_, hinj, fun i a q => ?_⟩
    · cases k with
      | loc => exact (hne rfl).elim
      | fre => exact (nofre j y _ hj rfl).elim
      | cel =>
        obtain ⟨c, hc'⟩ := Option.isSome_iff_exists.mp (cellAt (s.heap.objs.size + 1) j y hj)
        rw [← hcl] at hc'
        exact ⟨c, _, hc', x.cell y c hc', fun _ => x.above y c (mem_of_lookup hc')⟩
    · exact name_of_addr x.apart (mem_of_lookup hy) (mem_of_lookup hz)
    · exact Nat.ne_of_gt (x.above y c hm)
    · exact ⟨_, x.cell y c (lookup_of_mem_nodup cnames hm)⟩
    · rintro a (q | ⟨y, q⟩)
      · exact newB a (privS a (.inl q))
      · exact newB a (privS a (.inr ⟨x.above y a q, List.mem_map.mpr ⟨_, q, rfl⟩⟩))
    · -- a parameter
      intro j y k v hj hvj
      have hjl : j < names.length := by
        have := (List.getElem?_eq_some_iff.mp hvj).1
        omega
      obtain ⟨z, hz⟩ : ∃ z, names[j]? = some z := ⟨names[j]'hjl, List.getElem?_eq_getElem hjl⟩
      obtain ⟨k2, hk2⟩ := place j z hz
      rw [hk2] at hj; cases hj
      have hkind : env.kindOf y = some k.kind := by unfold Env.kindOf; rw [hsc]; exact (F.at hk2).1
      cases k with
      | loc => exact ⟨_, x.toInCall.ns, bindL_lookup hkind names vs _ nd hlen' j hz v hvj⟩
      | fre => exact (nofre j y _ hk2 rfl).elim
      | cel =>
        obtain ⟨c, hc'⟩ := Option.isSome_iff_exists.mp (cellAt (s.heap.objs.size + 1) j y hk2)
        rw [← hcl] at hc'
        have := x.cell y c hc'
        rw [bindC_lookup (by rw [hkind]; decide) names vs _ nd hlen' j hz v hvj] at this
        exact ⟨c, hc', this⟩
    · obtain ⟨h5, o5, h6⟩ := hoa i a q
      refine ⟨fun q' => ?_, h5, o5, kk _ _ h6⟩
      rw [privS a q'] at h6; cases h6
  have hLo : ∃ o es ep, h'.get? env.locals = some o ∧ o.cls = .type "frame" ∧ o.data = .dict es ep := by
    obtain ⟨o, ho, hcl'⟩ := xf.f
    obtain ⟨o', es, ep, ho', hd, _⟩ := x.toInCall.ns
    rw [ho] at ho'; cases ho'
    exact ⟨o, es, ep, ho, hcl', hd⟩
  have ar' : Ar B (A.deeper env) n { s with heap := h', toks := tk } := by
    obtain ⟨l, f1, f2, f3⟩ := ar.frames
    have f2' := FunFrames.kp k01 f2
    refine ⟨by show A.depth + 1 + n < _; have := ar.depth; (clear hlen'; omega), by show A.units + 3 + 10 * n < _; have := ar.units; (clear hlen'; omega), ar.handled, env :: l, by show A.frames.map (env :: ·) = _; rw [f1]; rfl, ?_, ?_⟩
    · obtain ⟨o, es, ep, ho, _, hd⟩ := hLo
      exact ⟨by rw [hsc, F.fn]; decide, ⟨env.locals, o, hfr, newB _ (privS _ (.inl rfl)), ho, fun vs q => by rw [hd] at q; cases q⟩, f2'⟩
    · intro L hL
      rw [List.filterMap_cons, hfr] at hL
      rcases List.mem_cons.mp hL with rfl | hL
      · exact hLo
      · obtain ⟨o, es, ep, ho, q⟩ := f3 L hL
        exact ⟨o, es, ep, kk _ _ ho, q⟩
  have fw : ∀ b, FW env oa0 b → ((∃ i, oa0 i = some b) ∨ s.heap.get? b = none) := by
    rintro b (q | ⟨i, q⟩)
    · exact .inr (privS b q)
    · exact .inl ⟨i, q⟩
  have hdd : Hd (A.deeper env) env := by
    obtain ⟨l, f1, _⟩ := ar.frames
    exact ⟨⟨l, by show A.frames.map (env :: ·) = some (env :: l); rw [f1]; rfl⟩, hfr⟩
  refine wpAny_mono (h.go env oa0 (A.deeper env) _ hdd R ar') (fun fl s' hp => ?_) fun e s' he' => ?_
  · obtain ⟨fl', ρ', oa', q1, q2, q3, q4, q5⟩ := hp
    have k : KpW B (fun b => ∃ i, oa0 i = some b) s s' := KpW.trans (Kp.toW k01) q4 fw
    have o5 : OwnFrom s oa0 oa' := fun i a q => (q5 i a q).imp (fun x => x) fun y => k01.fresh y
    cases fl with
    | next => cases fl' with
      | next => exact hret env oa' ρ' _ _ s' q1 q3 k o5 (.inl ⟨rfl, rfl⟩)
      | _ => exact q2.elim
    | brk => cases fl' with
      | brk => exact ((hbad ρ').1 q1).elim
      | _ => exact q2.elim
    | cont => cases fl' with
      | cont => exact ((hbad ρ').2 q1).elim
      | _ => exact q2.elim
    | ret v => cases fl' with
      | ret r => exact hret env oa' ρ' _ _ s' q1 q3 k o5 (.inr ⟨r, rfl, VR.back k01 q2⟩)
      | _ => exact q2.elim
  · obtain ⟨c, cv, a, q1, q2, rfl, q4, q5⟩ := he'
    have k : KpW B (fun b => ∃ i, oa0 i = some b) s s' := KpW.trans (Kp.toW k01) q4 fw
    have fr : Fr1 B (A.deeper env) env s' := by
      obtain ⟨l, f1, f2, f3⟩ := (ar'.kp q4).frames
      have : l = env :: (ar.frames.choose) := by
        have f0 := ar.frames.choose_spec.1
        have : A.frames.map (env :: ·) = some l := f1
        rw [f0] at this; exact (Option.some.inj this).symm
      subst this
      exact ⟨_, f1, f2, f3⟩
    exact wpAny_mono (leaveFly hfr fr k (q5.back k01)) (fun _ s'' hz2 => by obtain ⟨r1, r2⟩ := hz2; exact herr _ _ ⟨c, cv, a, q1, q2, rfl, r1, r2.fly⟩) fun _ _ x => x
theorem Spec.of_body {B : Bs} {F : Fi} {X : Str → Prop} {n : Nat} {f : Str} {names : List Str} {body : List Stmt} {ags : List Ag} {Q : Rs → Prop}
    (hf : FnAt B f names body F.scope) (hv : (F.vars.map (·.1)).take names.length = names) (hnf : (F.vars.all fun x => decide (x.2 ≠ .fre)) = true) (hl : ags.length = names.length)
    (h : SWs B F X n (start F ags) body (RetOk Q)) : Spec B f X (n + 1) ags Q := by
  obtain ⟨fa, o, fd, h1, h2, h3, hb, hs, hg, hc, hbu, hcd, hbind⟩ := hf.ex
  refine ⟨fa, o, fd, h1, h2, h3, fun A s vs bas ar hlen hargs => ?_⟩
  have kp : ∀ {s'}, KpW B (fun b => ∃ i : Nat, (none : Option Addr) = some b) s s' → Kp B s s' := fun k => k.mono fun b q => by obtain ⟨_, q⟩ := q; cases q
  refine bodyCore (oa0 := fun _ => none) h2 h3 hb hs hg hc hbu hcd hbind hf.co hf.gen hf.cells hv hnf bas ar (hlen.trans hl) (fun _ _ q => by cases q) (fun _ _ _ q => by cases q) (fun env h' g01 kk privS hvar j y k sl hj hρ => ?_) h (fun env oa' ρ' fl v s' q1 q3 k q5 hr => ?_) (fun _ => ⟨fun q => q, fun q => q⟩) (fun e s' x => ?_)
  · have hj' : j < ags.length := by
      by_cases q : j < ags.length
      · exact q
      · unfold start at hρ
        rw [List.getElem?_append_right (by simpa using Nat.le_of_not_lt q), List.getElem?_replicate] at hρ
        split at hρ <;> cases hρ
    unfold start at hρ
    rw [List.getElem?_append_left (by simpa using hj'), List.getElem?_map] at hρ
    obtain ⟨g, hg'⟩ : ∃ g, ags[j]? = some g := ⟨ags[j], List.getElem?_eq_getElem hj'⟩
    rw [hg'] at hρ; cases hρ
    obtain ⟨v, hvj⟩ : ∃ v, vs[j]? = some v := ⟨vs[j]'(by omega), List.getElem?_eq_getElem (by omega)⟩
    have har := hargs j v g hvj hg'
    cases g with
    | im d => exact ⟨v, hvar j y k v hj hvj, Im.grow g01 har⟩
    | ct c =>
      obtain ⟨a, rfl, hca⟩ := har
      refine ⟨a, hvar j y k _ hj hvj, hca.of_same (fun o e _ => kk _ _ e) g01, ?_⟩
      rintro (q | ⟨_, q⟩)
      · obtain ⟨o, ho⟩ := hca.exists
        rw [privS a q] at ho; cases ho
      · cases q
  · rcases hr with ⟨rfl, rfl⟩ | ⟨r, rfl, hr⟩
    · exact ⟨.im .none, q1, kp k, .none⟩
    · cases r with
      | im d => exact ⟨.im d, q1, kp k, hr⟩
      | ct m c => cases m with
        | fz => exact q1.elim
        | fr => exact ⟨.fr c, q1, kp k, hr⟩
        | ow i =>
          obtain ⟨a, e1, e2, e3⟩ := hr
          rcases q5 i a e3 with ⟨_, q⟩ | q
          · cases q
          · exact ⟨.fr c, q1, kp k, a, e1, e2, q⟩
  · obtain ⟨c, cv, a, q1, q2, q3, q4, q5⟩ := x
    exact ⟨c, cv, a, q1, q2, q3, kp q4, q5⟩
end Mine
end

section
open PySem PySem.W PyProof.Rows PySem.Calls
set_option Elab.async false
set_option maxRecDepth 100000
set_option linter.unusedVariables false
namespace Mine
section
variable {B : Bs} {n : Nat}

theorem VR.int {env oa} {s s' : Shared} {v : Value} {i : Int} (x : VR B env oa s s' v (.im (.int i))) : ∃ t, v = .int i t := by cases x; exact ⟨_, rfl⟩
theorem VR.str {env oa} {s s' : Shared} {v : Value} {i : Str} (x : VR B env oa s s' v (.im (.str i))) : ∃ t, v = .str i t := by cases x; exact ⟨_, rfl⟩
theorem VR.bool {env oa} {s s' : Shared} {v : Value} {i : Bool} (x : VR B env oa s s' v (.im (.bool i))) : v = .bool i := by cases x; rfl
theorem VR.none {env oa} {s s' : Shared} {v : Value} (x : VR B env oa s s' v (.im .none)) : v = .none := by cases x; rfl
theorem VR.tup {env oa} {s s' : Shared} {v : Value} {l : List D} (x : VR B env oa s s' v (.im (.tup l))) : ∃ a o vs m, v = .ref a ∧ s'.heap.get? a = some o ∧ o.cls = .type "tuple" ∧ o.data = .seq vs m ∧ Ims s'.heap vs.toList l := by
  cases x with
  | tup h1 h2 h3 h4 => exact ⟨_, _, _, _, rfl, h1, h2, h3, h4⟩

theorem BinS.add (a b : Int) : BinS B n .Add (.im (.int a)) (.im (.int b)) (.im (.int (a + b))) := fun env oa A s0 s vx vy E bs ar x y => by
  obtain ⟨t, rfl⟩ := x.int; obtain ⟨u, rfl⟩ := y.int
  exact PyProof.Rows.add_int ⟨Kp.toks, Im.int _ _⟩
theorem BinS.sub (a b : Int) : BinS B n .Sub (.im (.int a)) (.im (.int b)) (.im (.int (a - b))) := fun env oa A s0 s vx vy E bs ar x y => by
  obtain ⟨t, rfl⟩ := x.int; obtain ⟨u, rfl⟩ := y.int
  exact PyProof.Rows.sub_int ⟨Kp.toks, Im.int _ _⟩
theorem BinS.mul {a b : Int} (hm : IntMulOk a b) : BinS B n .Mult (.im (.int a)) (.im (.int b)) (.im (.int (a * b))) := fun env oa A s0 s vx vy E bs ar x y => by
  obtain ⟨t, rfl⟩ := x.int; obtain ⟨u, rfl⟩ := y.int
  exact PyProof.Rows.mul_int ⟨Kp.toks, Im.int _ _⟩ hm
theorem BinS.mod {a b : Int} (hb : b ≠ 0) : BinS B n .Mod (.im (.int a)) (.im (.int b)) (.im (.int (a.fmod b))) := fun env oa A s0 s vx vy E bs ar x y => by
  obtain ⟨t, rfl⟩ := x.int; obtain ⟨u, rfl⟩ := y.int
  exact PyProof.Rows.mod_int hb ⟨Kp.toks, Im.int _ _⟩
theorem BinS.fdiv {a b : Int} (hb : b ≠ 0) (hp : b.natAbs.log2 < 9000) : BinS B n .FloorDiv (.im (.int a)) (.im (.int b)) (.im (.int (a.fdiv b))) := fun env oa A s0 s vx vy E bs ar x y => by
  obtain ⟨t, rfl⟩ := x.int; obtain ⟨u, rfl⟩ := y.int
  exact PyProof.Rows.floordiv_int hb ⟨Kp.toks, Im.int _ _⟩ (.inl (PyProof.noPylong_of_log2 hp))
theorem UnS.neg (a : Int) : UnS B n .USub (.im (.int a)) (.im (.int (-a))) := fun env oa A s0 s vx E bs ar x => by
  obtain ⟨t, rfl⟩ := x.int
  exact PyProof.Rows.neg_int ⟨Kp.toks, Im.int _ _⟩
theorem CmpS.eqI (a b : Int) : CmpS B n .Eq (.im (.int a)) (.im (.int b)) (a == b) := fun env oa A s0 s vx vy E bs ar x y => by
  obtain ⟨t, rfl⟩ := x.int; obtain ⟨u, rfl⟩ := y.int
  exact PyProof.Rows.eq_int ⟨rfl, Kp.refl _⟩
theorem CmpS.neI (a b : Int) : CmpS B n .NotEq (.im (.int a)) (.im (.int b)) (a != b) := fun env oa A s0 s vx vy E bs ar x y => by
  obtain ⟨t, rfl⟩ := x.int; obtain ⟨u, rfl⟩ := y.int
  exact PyProof.Rows.ne_int ⟨rfl, Kp.refl _⟩
theorem CmpS.ltI (a b : Int) : CmpS B n .Lt (.im (.int a)) (.im (.int b)) (decide (a < b)) := fun env oa A s0 s vx vy E bs ar x y => by
  obtain ⟨t, rfl⟩ := x.int; obtain ⟨u, rfl⟩ := y.int
  exact PyProof.Rows.lt_int ⟨rfl, Kp.refl _⟩
theorem CmpS.gtI (a b : Int) : CmpS B n .Gt (.im (.int a)) (.im (.int b)) (decide (b < a)) := fun env oa A s0 s vx vy E bs ar x y => by
  obtain ⟨t, rfl⟩ := x.int; obtain ⟨u, rfl⟩ := y.int
  exact PyProof.Rows.gt_int ⟨rfl, Kp.refl _⟩
theorem CmpS.leI (a b : Int) : CmpS B n .LtE (.im (.int a)) (.im (.int b)) (decide (a ≤ b)) := fun env oa A s0 s vx vy E bs ar x y => by
  obtain ⟨t, rfl⟩ := x.int; obtain ⟨u, rfl⟩ := y.int
  exact PyProof.Rows.le_int ⟨rfl, Kp.refl _⟩
theorem CmpS.geI (a b : Int) : CmpS B n .GtE (.im (.int a)) (.im (.int b)) (decide (b ≤ a)) := fun env oa A s0 s vx vy E bs ar x y => by
  obtain ⟨t, rfl⟩ := x.int; obtain ⟨u, rfl⟩ := y.int
  exact PyProof.Rows.ge_int ⟨rfl, Kp.refl _⟩
theorem TruS.bool (b : Bool) : TruS B n (.im (.bool b)) b := fun env oa A s0 s vx E bs ar x => by
  rw [x.bool]; exact wpAny_truthy_bool ⟨rfl, Kp.refl _⟩
theorem TruS.int (a : Int) : TruS B n (.im (.int a)) (a != 0) := fun env oa A s0 s vx E bs ar x => by
  obtain ⟨t, rfl⟩ := x.int
  exact PyProof.Rows.truthy_int ⟨rfl, Kp.refl _⟩
theorem UnS.not {x : AV} {b : Bool} (h : TruS B n x b) : UnS B n .Not x (.im (.bool (!b))) := fun env oa A s0 s vx E bs ar x' =>
  PyProof.Rows.not_of (wpAny_mono (h env oa A s0 s vx E bs ar x') (fun v s' hz1 => by obtain ⟨e, k⟩ := hz1; subst e; exact ⟨k, Im.bool _⟩) fun _ _ x => x)

theorem CmpS.eqS (a b : Str) : CmpS B n .Eq (.im (.str a)) (.im (.str b)) (a == b) := fun env oa A s0 s vx vy E bs ar x y => by
  obtain ⟨t, rfl⟩ := x.str; obtain ⟨u, rfl⟩ := y.str
  exact PyProof.Rows.eq_str ⟨rfl, Kp.refl _⟩
theorem CmpS.neS (a b : Str) : CmpS B n .NotEq (.im (.str a)) (.im (.str b)) (a != b) := fun env oa A s0 s vx vy E bs ar x y => by
  obtain ⟨t, rfl⟩ := x.str; obtain ⟨u, rfl⟩ := y.str
  exact PyProof.Rows.ne_str ⟨rfl, Kp.refl _⟩
theorem BinS.addS {a b : Str} (h : a.length + b.length ≤ sizeLine) : BinS B n .Add (.im (.str a)) (.im (.str b)) (.im (.str (a ++ b))) := fun env oa A s0 s vx vy E bs ar x y => by
  obtain ⟨t, rfl⟩ := x.str; obtain ⟨u, rfl⟩ := y.str
  exact PyProof.Rows.add_str (fun t' tk => ⟨Kp.toks, Im.str _ _⟩) h
end
end Mine
end

section
open PySem PySem.W PyProof.Rows PySem.Calls
set_option Elab.async false
set_option maxRecDepth 100000
set_option linter.unusedVariables false
namespace Mine
section
variable {B : Bs} {F : Fi} {X : Str → Prop} {n : Nat} {ρ : List (Option Sl)}

theorem loadBuiltin {env oa A s} {f : Str} {fv : Value} {Q : Value → Shared → Prop} {E} (R : Rp B F env oa ρ s) (hk : F.scope.names.lookup f = some .globalImplicit) (hm : B.mg f = none) (hb : bootBuiltins f = some fv)
    (h : Q fv s) {pos} (hn : f ≠ "__name__" := by decide) (hd : (f == ("__debug__" : Str)) = false := by decide) : wpAny (model B.prog B.w) A (eval (.Name f pos) env) Q E s := by
  have hkf : env.scope.kind = .function := by rw [R.scope]; exact F.fn
  have hx : env.kindOf f = some .globalImplicit := by unfold Env.kindOf; rw [R.scope]; exact hk
  exact Name_function_global hkf hx (loadGlobal_builtin (by rw [R.globals]; exact B.g.keeps R.base) hm (by rw [R.builtins]; exact B.b.keeps R.base) ((B.bu f hn).trans hb) h) hd
theorem EW.glob {x : Str} {pos} {Q : AV → Prop} {v : Value} {d : D} (hk : F.scope.names.lookup x = some .globalImplicit) (hm : B.mg x = some v) (hv : Im B.hB v d) (h : Q (.im d)) (hd : (x == ("__debug__" : Str)) = false := by decide) :
    EW B F X n ρ (.Name x pos) Q := by
  refine .mk ?_
  intro env oa A s R a
  have hkf : env.scope.kind = .function := by rw [R.scope]; exact F.fn
  have hx : env.kindOf x = some .globalImplicit := by unfold Env.kindOf; rw [R.scope]; exact hk
  exact Name_function_global hkf hx (loadGlobal_global (by rw [R.globals]; exact B.g.keeps R.base) hm ⟨_, h, Kp.refl _, hv.grow fun b o _ _ e _ _ => R.base b o e⟩) hd

noncomputable def BuiS (B : Bs) (n : Nat) (fv : Value) (xs : List AV) (z : AV) : Prop :=
  ∀ env oa A s0 s vs (E : Value → Shared → Prop), Bas B s → Ar B A n s → vs.length = xs.length → (∀ (i : Nat) v r, vs[i]? = some v → xs[i]? = some r → VR B env oa s0 s v r) →
    wpAny (model B.prog B.w) A (PySem.call fv vs) (fun v s' => Kp B s s' ∧ VR B env oa s s' v z) E s
noncomputable def IsCallee : Value → Prop
  | .builtin _ => True
  | .type _ => True
  | _ => False
theorem EW.bcall {f : Str} {p1 : Pos} {e : Expr} {rest : List Expr} {pos : Pos} {Q : AV → Prop} {fv : Value} (hk : F.scope.names.lookup f = some .globalImplicit) (hm : B.mg f = none) (hb : bootBuiltins f = some fv) (hc : IsCallee fv)
    (h : LW B F X n ρ (e :: rest) fun rs => ∃ z, BuiS B n fv rs z ∧ Q z)
    (he : ∀ env, starEach (e :: rest) env = (false, eval e env) :: starEach rest env := by intro _; rfl) (hp : ∀ env, (backTo pos (starEach rest env)).any (·.1) = false := by intro _; rfl)
    (hn : f ≠ "__name__" := by decide) (hd : (f == ("__debug__" : Str)) = false := by decide) :
    EW B F X n ρ (.Call (.Name f p1) (e :: rest) [] pos) Q := by
  refine .mk ?_
  intro env oa A s R a
  refine wpAny_Call_ofName (loadBuiltin R hk hm hb ?_ hn hd)
  have go : wpAny (model B.prog B.w) A (spliced (backTo pos (starEach (e :: rest) env))) (fun vs s₁ => wpAny (model B.prog B.w) A (PySem.call fv vs) (fun v s' => ∃ r, Q r ∧ Kp B s s' ∧ VR B env oa s s' v r) (EP B X s) s₁) (EP B X s) s :=
    wpAny_mono (h.go env oa A s pos R a) (fun vs s1 ⟨rs, ⟨z, hz, q⟩, k1, hl, hv⟩ =>
      wpAny_mono (hz env oa A s s1 vs _ (R.kp k1).base (a.kp k1) hl hv) (fun v s2 hz2 => by obtain ⟨k2, x2⟩ := hz2; exact ⟨z, q, k1.trans k2, x2.back k1⟩) fun _ _ x => x) fun _ _ x => x
  cases fv with
  | builtin id => exact callWith_builtin1 go (he env) (hp env)
  | type T => exact PyProof.Rows.callWith_type1 go (he env) (hp env)
  | _ => exact hc.elim
theorem len0 {α : Type} {l : List α} (h : l.length = 0) : l = [] := List.length_eq_zero_iff.mp h
theorem len1 {α : Type} {l : List α} (h : l.length = 1) : ∃ a, l = [a] := List.length_eq_one_iff.mp h
theorem lenS' {α : Type} {n : Nat} {l : List α} (h : l.length = n + 1) : ∃ a r, l = a :: r ∧ r.length = n := by
  cases l with
  | nil => cases h
  | cons a r => exact ⟨a, r, rfl, Nat.succ.inj h⟩
theorem len2 {α : Type} {l : List α} (h : l.length = 2) : ∃ a b, l = [a, b] := let ⟨a, _, e, h⟩ := lenS' h; let ⟨b, e'⟩ := len1 h; ⟨a, b, e'▸ e⟩
theorem len3 {α : Type} {l : List α} (h : l.length = 3) : ∃ a b c, l = [a, b, c] := let ⟨a, _, e, h⟩ := lenS' h; let ⟨b, c, e'⟩ := len2 h; ⟨a, b, c, e' ▸ e⟩
theorem len4 {α : Type} {l : List α} (h : l.length = 4) : ∃ a b c d, l = [a, b, c, d] := let ⟨a, _, e, h⟩ := lenS' h; let ⟨b, c, d, e'⟩ := len3 h; ⟨a, b, c, d, e' ▸ e⟩
theorem len5 {α : Type} {l : List α} (h : l.length = 5) : ∃ a b c d e, l = [a, b, c, d, e] := let ⟨a, _, e, h⟩ := lenS' h; let ⟨b, c, d, f, e'⟩ := len4 h; ⟨a, b, c, d, f, e' ▸ e⟩
theorem len6 {α : Type} {l : List α} (h : l.length = 6) : ∃ a b c d e f, l = [a, b, c, d, e, f] := let ⟨a, _, e, h⟩ := lenS' h; let ⟨b, c, d, f, g, e'⟩ := len5 h; ⟨a, b, c, d, f, g, e' ▸ e⟩
theorem BuiS.one {fv : Value} {x z : AV} (h : ∀ env oa A s0 s v (E : Value → Shared → Prop), Bas B s → Ar B A n s → VR B env oa s0 s v x → wpAny (model B.prog B.w) A (PySem.call fv [v]) (fun v s' => Kp B s s' ∧ VR B env oa s s' v z) E s) : BuiS B n fv [x] z :=
  fun env oa A s0 s vs E b a hl hv => by
    obtain ⟨v, rfl⟩ := len1 hl
    exact h env oa A s0 s v E b a (hv 0 v x rfl rfl)
theorem BuiS.two {fv : Value} {x y z : AV} (h : ∀ env oa A s0 s v u (E : Value → Shared → Prop), Bas B s → Ar B A n s → VR B env oa s0 s v x → VR B env oa s0 s u y → wpAny (model B.prog B.w) A (PySem.call fv [v, u]) (fun v s' => Kp B s s' ∧ VR B env oa s s' v z) E s) : BuiS B n fv [x, y] z :=
  fun env oa A s0 s vs E b a hl hv => by
    obtain ⟨v, u, rfl⟩ := len2 hl
    exact h env oa A s0 s v u E b a (hv 0 v x rfl rfl) (hv 1 u y rfl rfl)

theorem VR.lst {env oa} {s s' : Shared} {v : Value} {m : Md} {l : List D} (x : VR B env oa s s' v (.ct m (.lst l))) : ∃ a vs, v = .ref a ∧ s'.heap.IsList a vs ∧ Ims s'.heap vs.toList l := by
  obtain ⟨a, rfl, o, vs, k, h1, ⟨h2, _⟩, h3, h4⟩ := x.cont
  exact ⟨a, vs, rfl, ⟨o, h1, h2, k, h3⟩, h4⟩
theorem VR.isTup {env oa} {s s' : Shared} {v : Value} {l : List D} (x : VR B env oa s s' v (.im (.tup l))) : ∃ a vs, v = .ref a ∧ IsTup s'.heap a vs ∧ Ims s'.heap vs.toList l := by
  obtain ⟨a, o, vs, k, rfl, h1, h2, h3, h4⟩ := x.tup
  exact ⟨a, vs, rfl, ⟨o, h1, h2, k, h3⟩, h4⟩

theorem BuiS.lenL {m : Md} {l : List D} (h : l.length < 2 ^ 63) : BuiS B n (.builtin "len") [.ct m (.lst l)] (.im (.int l.length)) := .one fun env oa A s0 s v E b a x => by
  obtain ⟨a, vs, rfl, h1, h2⟩ := x.lst
  have e : vs.size = l.length := by rw [← Array.length_toList]; exact h2.length
  exact PyProof.Rows.len_list h1 (by rw [e]; exact_mod_cast h) (by rw [e]; exact ⟨Kp.toks, Im.int _ _⟩)
theorem BuiS.lenT {l : List D} (h : l.length < 2 ^ 63) : BuiS B n (.builtin "len") [.im (.tup l)] (.im (.int l.length)) := .one fun env oa A s0 s v E b a x => by
  obtain ⟨a, vs, rfl, h1, h2⟩ := x.isTup
  have e : vs.size = l.length := by rw [← Array.length_toList]; exact h2.length
  exact PyProof.Rows.len_tuple h1 (by rw [e]; exact_mod_cast h) (by rw [e]; exact ⟨Kp.toks, Im.int _ _⟩)
theorem BuiS.lenS {x : Str} (h : x.length < 2 ^ 63) : BuiS B n (.builtin "len") [.im (.str x)] (.im (.int x.length)) := .one fun env oa A s0 s v E b a y => by
  obtain ⟨t, rfl⟩ := y.str
  exact PyProof.Rows.len_str (by omega) ⟨Kp.toks, Im.int _ _⟩

noncomputable def IsiS (B : Bs) (n : Nat) (x : AV) (T : String) (r : Bool) : Prop :=
  ∀ env oa A s0 s v (E : Value → Shared → Prop), Bas B s → Ar B A n s → VR B env oa s0 s v x → wpAny (model B.prog B.w) A (PySem.call (.builtin "isinstance") [v, .type T]) (fun v s' => v = .bool r ∧ Kp B s s') E s
theorem EW.isi {p1 p2 : Pos} {e : Expr} {t : Str} {pos : Pos} {Q : AV → Prop} {T : String} (hk : F.scope.names.lookup (Str.ofString "isinstance") = some .globalImplicit) (hm : B.mg (Str.ofString "isinstance") = none)
    (hk2 : F.scope.names.lookup t = some .globalImplicit) (hm2 : B.mg t = none) (hb2 : bootBuiltins t = some (.type T))
    (h : EW B F X n ρ e fun x => ∃ r, IsiS B n x T r ∧ Q (.im (.bool r))) (hb : bootBuiltins "isinstance" = some (.builtin "isinstance") := by decide +kernel)
    (he : ∀ env, starEach (e :: [.Name t p2]) env = (false, eval e env) :: starEach [.Name t p2] env := by intro _; rfl) (hn2 : t ≠ "__name__" := by decide) (hd2 : (t == ("__debug__" : Str)) = false := by decide) :
    EW B F X n ρ (.Call (.Name "isinstance" p1) [e, .Name t p2] [] pos) Q := by
  refine .mk ?_
  intro env oa A s R a
  refine wpAny_Call_ofName (loadBuiltin R hk hm hb ?_)
  refine callWith_builtin1 ?_ (he env)
  refine wpAny_items_cons (h.run R a (Kp.refl _) fun v s1 r hz3 k1 x1 => ?_) (he env)
  obtain ⟨b, hi, q⟩ := hz3
  refine wpAny_items_cons (loadBuiltin (R.kp k1) hk2 hm2 hb2 (wpAny_items_nil ?_) hn2 hd2)
  exact wpAny_mono (hi env oa A s s1 v _ (R.kp k1).base (a.kp k1) x1) (fun v s2 hz4 => by obtain ⟨e, k2⟩ := hz4; subst e; exact ⟨_, q, k1.trans k2, Im.bool _⟩) fun _ _ x => x
open IsiPair in
theorem IsiS.int_ (i : Int) : IsiS B n (.im (.int i)) "int" true ∧ IsiS B n (.im (.int i)) "bool" false ∧ IsiS B n (.im (.int i)) "str" false ∧ IsiS B n (.im (.int i)) "tuple" false ∧ IsiS B n (.im (.int i)) "list" false := by
  refine ⟨?_, ?_, ?_, ?_, ?_⟩ <;> (intro env oa A s0 s v E b a x; obtain ⟨t, rfl⟩ := x.int)
  · exact int_int ⟨rfl, Kp.refl _⟩
  · exact int_bool ⟨rfl, Kp.toks⟩
  · exact int_str ⟨rfl, Kp.toks⟩
  · exact int_tuple ⟨rfl, Kp.toks⟩
  · exact int_list ⟨rfl, Kp.toks⟩
open IsiPair in
theorem IsiS.str_ (i : Str) : IsiS B n (.im (.str i)) "int" false ∧ IsiS B n (.im (.str i)) "bool" false ∧ IsiS B n (.im (.str i)) "str" true ∧ IsiS B n (.im (.str i)) "tuple" false ∧ IsiS B n (.im (.str i)) "list" false := by
  refine ⟨?_, ?_, ?_, ?_, ?_⟩ <;> (intro env oa A s0 s v E b a x; obtain ⟨t, rfl⟩ := x.str)
  · exact str_int ⟨rfl, Kp.toks⟩
  · exact str_bool ⟨rfl, Kp.toks⟩
  · exact str_str ⟨rfl, Kp.refl _⟩
  · exact str_tuple ⟨rfl, Kp.toks⟩
  · exact str_list ⟨rfl, Kp.toks⟩
open IsiPair in
theorem IsiS.bool_ (i : Bool) : IsiS B n (.im (.bool i)) "int" true ∧ IsiS B n (.im (.bool i)) "bool" true ∧ IsiS B n (.im (.bool i)) "str" false ∧ IsiS B n (.im (.bool i)) "tuple" false ∧ IsiS B n (.im (.bool i)) "list" false := by
  refine ⟨?_, ?_, ?_, ?_, ?_⟩ <;> (intro env oa A s0 s v E b a x; obtain rfl := x.bool)
  · exact bool_int ⟨rfl, Kp.toks⟩
  · exact bool_bool ⟨rfl, Kp.refl _⟩
  · exact bool_str ⟨rfl, Kp.toks⟩
  · exact bool_tuple ⟨rfl, Kp.toks⟩
  · exact bool_list ⟨rfl, Kp.toks⟩
open IsiPair in
theorem IsiS.tup_ (l : List D) : IsiS B n (.im (.tup l)) "int" false ∧ IsiS B n (.im (.tup l)) "bool" false ∧ IsiS B n (.im (.tup l)) "str" false ∧ IsiS B n (.im (.tup l)) "tuple" true ∧ IsiS B n (.im (.tup l)) "list" false := by
  refine ⟨?_, ?_, ?_, ?_, ?_⟩ <;> (intro env oa A s0 s v E b a x; obtain ⟨a, o, vs, k, rfl, h1, h2, h3, h4⟩ := x.tup)
  · exact tuple_int h1 h2 ⟨rfl, Kp.toks⟩
  · exact tuple_bool h1 h2 ⟨rfl, Kp.toks⟩
  · exact tuple_str h1 h2 ⟨rfl, Kp.toks⟩
  · exact tuple_tuple h1 h2 ⟨rfl, Kp.refl _⟩
  · exact tuple_list h1 h2 ⟨rfl, Kp.toks⟩
open IsiPair in
theorem IsiS.lst_ (m : Md) (l : List D) : IsiS B n (.ct m (.lst l)) "int" false ∧ IsiS B n (.ct m (.lst l)) "bool" false ∧ IsiS B n (.ct m (.lst l)) "str" false ∧ IsiS B n (.ct m (.lst l)) "tuple" false ∧ IsiS B n (.ct m (.lst l)) "list" true := by
  refine ⟨?_, ?_, ?_, ?_, ?_⟩ <;> (intro env oa A s0 s v E b a x; obtain ⟨a, rfl, o, vs, k, h1, ⟨h2, _⟩, h3, h4⟩ := x.cont)
  · exact list_int h1 h2 ⟨rfl, Kp.toks⟩
  · exact list_bool h1 h2 ⟨rfl, Kp.toks⟩
  · exact list_str h1 h2 ⟨rfl, Kp.toks⟩
  · exact list_tuple h1 h2 ⟨rfl, Kp.toks⟩
  · exact list_list h1 h2 ⟨rfl, Kp.refl _⟩
open IsiPair in
theorem IsiS.none_ : IsiS B n (.im .none) "int" false ∧ IsiS B n (.im .none) "bool" false ∧ IsiS B n (.im .none) "str" false ∧ IsiS B n (.im .none) "tuple" false ∧ IsiS B n (.im .none) "list" false := by
  refine ⟨?_, ?_, ?_, ?_, ?_⟩ <;> (intro env oa A s0 s v E b a x; obtain rfl := x.none)
  · exact NoneType_int ⟨rfl, Kp.toks⟩
  · exact NoneType_bool ⟨rfl, Kp.toks⟩
  · exact NoneType_str ⟨rfl, Kp.toks⟩
  · exact NoneType_tuple ⟨rfl, Kp.toks⟩
  · exact NoneType_list ⟨rfl, Kp.toks⟩
end
end Mine
end

section
open PySem PySem.W PyProof.Rows PySem.Calls PyProof
set_option Elab.async false
set_option maxRecDepth 100000
set_option linter.unusedVariables false
namespace Mine
section
variable {B : Bs} {F : Fi} {X : Str → Prop} {n : Nat} {ρ : List (Option Sl)}

noncomputable def SubS (B : Bs) (n : Nat) (x i z : AV) : Prop :=
  ∀ env oa A s0 s vx vi value slice (E : Value → Shared → Prop), Bas B s → Ar B A n s → VR B env oa s0 s vx x → VR B env oa s0 s vi i → subscripted slice false vx vi = operate [vx, vi] (getItem vx vi) →
    wpAny (model B.prog B.w) A (subscriptTail value slice vx vi) (fun v s' => Kp B s s' ∧ VR B env oa s s' v z) E s
theorem EW.sub {value slice pos} {Q : AV → Prop} (h : EW B F X n ρ value fun x => EW B F X n ρ slice fun i => ∃ z, SubS B n x i z ∧ Q z)
    (hs : ∀ o i, subscripted slice false o i = operate [o, i] (getItem o i) := by intros; rfl) : EW B F X n ρ (.Subscript value slice pos) Q :=
  .mk fun env oa A s R a => Subscript_ (h.run R a (Kp.refl _) fun vx s1 rx qx k1 x1 => qx.run (R.kp k1) (a.kp k1) k1 fun vi s2 ri ⟨z, hz, q⟩ k2 x2 =>
    wpAny_mono (hz env oa A s s2 vx vi value slice _ ((R.kp k1).kp k2).base ((a.kp k1).kp k2) (x1.kp k2) (x2.back k1) (hs _ _)) (fun v s3 hz2 => by obtain ⟨k3, x3⟩ := hz2; exact ⟨z, q, (k1.trans k2).trans k3, x3.back (k1.trans k2)⟩) fun _ _ x => x)

theorem SubS.list {m : Md} {l : List D} {k : Int} {d : D} (h0 : 0 ≤ k) (hk : k < 2 ^ 63) (hd : l[k.toNat]? = some d) : SubS B n (.ct m (.lst l)) (.im (.int k)) (.im d) := fun env oa A s0 s vx vi value slice E b a x i hs => by
  obtain ⟨a, vs, rfl, h1, h2⟩ := x.lst
  obtain ⟨t, rfl⟩ := i.int
  obtain ⟨v, hv, hi⟩ := h2.get hd
  exact tail_any h1.typeIs slot_list_getitem.lookup (wpAny_getItem_list h1 h0 hk (by simpa using hv) ⟨Kp.refl _, hi⟩) hs
theorem seqIndex_neg {k : Int} {len : Nat} (h : k < 0) (h1 : 0 ≤ k + len) : seqIndex? k len = some (k + len).toNat := by
  unfold seqIndex?
  simp only [if_pos h]
  rw [if_pos (by simp; omega)]
theorem seqIndex_pos {k : Int} {len : Nat} (h : 0 ≤ k) (h1 : k < len) : seqIndex? k len = some k.toNat := by
  unfold seqIndex?
  simp only [if_neg (Int.not_lt.mpr h)]
  rw [if_pos (by simp; omega)]
theorem SubS.tup {l : List D} {k : Int} {d : D} {j : Nat} (hlo : -(2 ^ 63) ≤ k) (hk : k < 2 ^ 63) (hj : seqIndex? k l.length = some j) (hd : l[j]? = some d) : SubS B n (.im (.tup l)) (.im (.int k)) (.im d) := fun env oa A s0 s vx vi value slice E b a x i hs => by
  obtain ⟨a, vs, rfl, h1, h2⟩ := x.isTup
  obtain ⟨t, rfl⟩ := i.int
  obtain ⟨v, hv, hi⟩ := h2.get hd
  have e : vs.size = l.length := by rw [← Array.length_toList]; exact h2.length
  exact tail_any h1.typeIs slot_tuple_getitem.lookup (PyProof.Rows.getItem_tuple h1 hlo hk (by rw [e]; exact hj) (by simpa using hv) ⟨Kp.refl _, hi⟩) hs
theorem SubS.str {x : Str} {k : Int} {c j : Nat} (hlo : -(2 ^ 63) ≤ k) (hk : k < 2 ^ 63) (hj : seqIndex? k x.length = some j) (hc : x.cps[j]? = some c) : SubS B n (.im (.str x)) (.im (.int k)) (.im (.str ⟨#[c]⟩)) := fun env oa A s0 s vx vi value slice E b a y i hs => by
  obtain ⟨t, rfl⟩ := y.str
  obtain ⟨u, rfl⟩ := i.int
  refine tail_any (typeIs_str s x t) slot_str_getitem.lookup (PyProof.Rows.getItem_str ?_ ?_ ⟨Kp.toks, Im.str _ _⟩) hs
  · simp; omega
  · rw [hj]; exact hc

structure PW (B : Bs) (F : Fi) (X : Str → Prop) (n : Nat) (ρ : List (Option Sl)) (e : Option Expr) (Q : Option Int → Prop) : Prop where
  go : ∀ env oa A s, Rp B F env oa ρ s → Ar B A n s → wpAny (model B.prog B.w) A (evalPart e env) (fun v s' => ∃ i, Q i ∧ Kp B s s' ∧ IsPart v i) (EP B X s) s
theorem PW.none {Q : Option Int → Prop} (h : Q none) : PW B F X n ρ none Q := .mk fun env oa A s R a => by
  rw [evalPart_none]; exact wpAny_pure ⟨_, h, Kp.refl _, .none⟩
theorem PW.some {e} {Q : Option Int → Prop} (h : EW B F X n ρ e fun r => ∃ i, r = .im (.int i) ∧ Q (some i)) : PW B F X n ρ (some e) Q := .mk fun env oa A s R a => by
  rw [evalPart_some]
  exact wpAny_mono (h.go env oa A s R a) (fun v s' hz3 => by obtain ⟨r, ⟨i, e, q⟩, k, x⟩ := hz3; subst e; obtain ⟨t, rfl⟩ := x.int; exact ⟨_, q, k, .int _ _⟩) fun _ _ x => x
noncomputable def SlcS (B : Bs) (n : Nat) (x : AV) (l u : Option Int) (z : AV) : Prop :=
  ∀ env oa A s0 s vx vl vu value slice (E : Value → Shared → Prop), Bas B s → Ar B A n s → VR B env oa s0 s vx x → IsPart vl l → IsPart vu u →
    (∀ i, subscripted slice false vx i = operate [i, vx] (getItem vx i)) →
    wpAny (model B.prog B.w) A (subscriptTail value slice vx (.ref s.heap.objs.size)) (fun v s' => Kp B s s' ∧ VR B env oa s s' v z) E { s with heap := s.heap.push { cls := .type "slice", data := .fields #[vl, vu, .none] } }
theorem EW.slice {value lo hi p pos} {Q : AV → Prop} (h : EW B F X n ρ value fun x => PW B F X n ρ lo fun l => PW B F X n ρ hi fun u => ∃ z, SlcS B n x l u z ∧ Q z) :
    EW B F X n ρ (.Subscript value (.Slice lo hi none p) pos) Q :=
  .mk fun env oa A s R a => Subscript_ (h.run R a (Kp.refl _) fun vx s1 rx qx k1 x1 => wpAny_Slice
    (wpAny_mono (qx.go env oa A s1 (R.kp k1) (a.kp k1)) (fun vl s2 ⟨l, ql, k2, pl⟩ =>
      wpAny_mono (ql.go env oa A s2 ((R.kp k1).kp k2) ((a.kp k1).kp k2)) (fun vu s3 hz5 => by
        obtain ⟨u, ⟨z, hz, q⟩, k3, pu⟩ := hz5
        rw [evalPart_none]
        refine wpAny_pure ?_
        have k13 := (k1.trans k2).trans k3
        exact wpAny_mono (hz env oa A s s3 vx vl vu value _ _ (R.kp k13).base (a.kp k13) ((x1.kp k2).kp k3) pl pu (fun _ => rfl)) (fun v s4 hz6 => by obtain ⟨k4, x4⟩ := hz6; exact ⟨z, q, k13.trans k4, x4.back k13⟩) fun _ _ x => x)
        fun _ _ x => x.back (k1.trans k2)) fun _ _ x => x.back k1))

theorem Ims.filterMap {h : Heap} {vs : Array Value} {l : List D} (hi : Ims h vs.toList l) : ∀ is : List Nat, Ims h (is.filterMap (vs[·]?)) (is.filterMap (l[·]?))
  | [] => .nil
  | i :: is => by
    simp only [List.filterMap_cons]
    have e : vs.size = l.length := by rw [← Array.length_toList]; exact hi.length
    by_cases hlt : i < l.length
    · obtain ⟨v, hv, hi'⟩ := hi.get (List.getElem?_eq_getElem hlt)
      rw [List.getElem?_eq_getElem hlt, show vs[i]? = some v by simpa using hv]
      exact .cons hi' (hi.filterMap is)
    · rw [List.getElem?_eq_none (Nat.le_of_not_lt hlt), Array.getElem?_eq_none (by omega)]
      exact hi.filterMap is
noncomputable def pick (l : List D) (lo hi : Option Int) : List D :=
  (sliceRange (sliceBounds lo hi none l.length).1 (sliceBounds lo hi none l.length).2.1 (sliceBounds lo hi none l.length).2.2).filterMap (l[·]?)
theorem SlcS.list {m : Md} {l : List D} {lo hi : Option Int} (h : l.length ≤ sizeLine) : SlcS B n (.ct m (.lst l)) lo hi (.ct .fr (.lst (pick l lo hi))) := fun env oa A s0 s vx vl vu value slice E b a x pl pu hs => by
  obtain ⟨a, vs, rfl, h1, h2⟩ := x.lst
  have e : vs.size = l.length := by rw [← Array.length_toList]; exact h2.length
  have h1' := h1.push { cls := .type "slice", data := .fields #[vl, vu, .none] }
  have k1 : Kp B s { s with heap := s.heap.push { cls := .type "slice", data := .fields #[vl, vu, .none] } } := push_kp _
  refine tail_any (s := { s with heap := s.heap.push { cls := .type "slice", data := .fields #[vl, vu, .none] } }) h1'.typeIs slot_list_getitem.lookup (wpAny_getItem_list_slice h1' (Heap.IsSliceOf.new ..) pl pu .none (by simp) ?_ (by rw [e]; exact h)) (hs _)
  refine ⟨k1.trans (push_kp _), _, rfl, ⟨_, _, _, Heap.get?_push_size _ rfl, ⟨rfl, rfl⟩, rfl, ?_⟩, k1.fresh (fresh_size _)⟩
  have g : Grow s.heap ((s.heap.push { cls := .type "slice", data := .fields #[vl, vu, .none] }).push { cls := .type "list", data := .seq (slicePick vs lo hi none) }) := (k1.trans (push_kp (B := B) _ (t := s.toks))).tups
  have := (h2.filterMap (sliceRange (sliceBounds lo hi none vs.size).1 (sliceBounds lo hi none vs.size).2.1 (sliceBounds lo hi none vs.size).2.2)).grow g
  simpa [slicePick, pick, e] using this
theorem SlcS.str {x : Str} {lo hi : Option Int} (h : x.length ≤ sizeLine) : SlcS B n (.im (.str x)) lo hi (.im (.str (Txt.slice x lo hi))) := fun env oa A s0 s vx vl vu value slice E b a y pl pu hs => by
  obtain ⟨t, rfl⟩ := y.str
  have k1 : ∀ tk, Kp B s { s with heap := s.heap.push { cls := .type "slice", data := .fields #[vl, vu, .none] }, toks := tk } := fun tk => push_kp _
  have go : ∀ (l u : Option (Int × Tok)), vl = partValue l → vu = partValue u → wpAny (model B.prog B.w) A (subscriptTail value slice (.str x t) (.ref s.heap.objs.size)) (fun v s' => Kp B s s' ∧ VR B env oa s s' v (.im (.str (Txt.slice x (l.map (·.1)) (u.map (·.1)))))) E { s with heap := s.heap.push { cls := .type "slice", data := .fields #[vl, vu, .none] } } := fun l u el eu => by
    refine tail_any (typeIs_str _ x t) slot_str_getitem.lookup (wpAny_getItem_str_slice (l := l) (u := u) (st := none) ⟨_, Heap.get?_push_size _ rfl, rfl, by rw [el, eu]; rfl⟩ rfl ?_) (hs _)
    exact post_val_or_str ⟨Nat.le_trans (Txt.slice_le x _ _) h, fun t' k => ⟨k1 k, Im.str _ _⟩⟩
  cases pl with
  | none => cases pu with
    | none => exact go none none rfl rfl
    | int j u => exact go none (.some (j, u)) rfl rfl
  | int i ti => cases pu with
    | none => exact go (.some (i, ti)) none rfl rfl
    | int j u => exact go (.some (i, ti)) (.some (j, u)) rfl rfl
end
end Mine
end

section
open PySem PySem.W PyProof.Rows PySem.Calls PyProof
set_option Elab.async false
set_option maxRecDepth 100000
set_option linter.unusedVariables false
namespace Mine

noncomputable def intsFrom (a : Int) : Nat → List D
  | 0 => []
  | k + 1 => .int a :: intsFrom (a + 1) k
noncomputable def signsD (x : Str) : List D := x.cps.toList.map fun c => .str ⟨#[c]⟩

inductive Itr (h : Heap) (it : Addr) : Option Addr → List D → Prop
  | list {l i vs ds} : h.IsListIter it l i → h.IsList l vs → Ims h (vs.toList.drop i) ds → Itr h it (some l) ds
  | tup {t i vs ds} : h.IsTupleIter it t i → h.IsTuple t vs → Ims h (vs.toList.drop i) ds → Itr h it none ds
  | rng {x : Int} {k : Nat} : IsRangeIter h it x k 1 → Itr h it none (intsFrom x k)
  | asc {x : Str} {t i} : h.IsStrIter it "str_ascii_iterator" x t i → Itr h it none ((signsD x).drop i)
  | wid {x : Str} {t i} : h.IsStrIter it "str_iterator" x t i → Itr h it none ((signsD x).drop i)

section
variable {B : Bs} {F : Fi} {X : Str → Prop} {n : Nat} {ρ : List (Option Sl)}

theorem Itr.kp {W} {s s' : Shared} {it : Addr} {dep : Option Addr} {ds : List D} (x : Itr s.heap it dep ds) (k : KpW B W s s') (h1 : ¬ W it) (h2 : ∀ l, dep = some l → ¬ W l) : Itr s'.heap it dep ds := by
  have kk : ∀ o, s.heap.get? it = some o → o.cls ≠ .type "frame" → s'.heap.get? it = some o := fun o e f => k.keep it o e h1 (.inl f)
  cases x with
  | list a b c =>
    obtain ⟨o, ho, hc, hd⟩ := a
    obtain ⟨o2, ho2, hc2, m, hd2⟩ := b
    exact .list ⟨o, kk o ho (by rw [hc]; decide), hc, hd⟩ ⟨o2, k.keep _ o2 ho2 (h2 _ rfl) (.inl (by rw [hc2]; decide)), hc2, m, hd2⟩ (c.grow k.tups)
  | tup a b c =>
    obtain ⟨o, ho, hc, hd⟩ := a
    obtain ⟨o2, ho2, hc2, m, hd2⟩ := b
    exact .tup ⟨o, kk o ho (by rw [hc]; decide), hc, hd⟩ ⟨o2, k.tups _ _ _ _ ho2 hc2 hd2, hc2, m, hd2⟩ (c.grow k.tups)
  | rng a => exact .rng (kk _ a (by show Value.type _ ≠ _; decide))
  | asc a => obtain ⟨o, ho, hc, hd⟩ := a; exact .asc ⟨o, kk o ho (by rw [hc]; decide), hc, hd⟩
  | wid a => obtain ⟨o, ho, hc, hd⟩ := a; exact .wid ⟨o, kk o ho (by rw [hc]; decide), hc, hd⟩
theorem Itr.cls {h : Heap} {it : Addr} {dep : Option Addr} {ds : List D} (x : Itr h it dep ds) : ∃ o T, h.get? it = some o ∧ o.cls = .type T ∧ (∃ vs, o.data = .fields vs) ∧
    (["enumerate", "zip", "dict_itemiterator", "dict_reverseitemiterator", "odict_iterator", "itertools.zip_longest", "itertools.pairwise"].contains T) = false := by
  cases x with
  | list a b c => obtain ⟨o, ho, hc, hd⟩ := a; exact ⟨o, _, ho, hc, ⟨_, hd⟩, by decide⟩
  | tup a b c => obtain ⟨o, ho, hc, hd⟩ := a; exact ⟨o, _, ho, hc, ⟨_, hd⟩, by decide⟩
  | rng a => exact ⟨_, _, a, rfl, ⟨_, rfl⟩, by decide⟩
  | asc a => obtain ⟨o, ho, hc, hd⟩ := a; exact ⟨o, _, ho, hc, ⟨_, hd⟩, by decide⟩
  | wid a => obtain ⟨o, ho, hc, hd⟩ := a; exact ⟨o, _, ho, hc, ⟨_, hd⟩, by decide⟩
theorem Itr.letGo {A : Around} {s : Shared} {it : Addr} {dep ds} {target : Expr} {v : Value} {Q : Unit → Shared → Prop} {E} (x : Itr s.heap it dep ds) (h : Q () s) : wpAny (model B.prog B.w) A (letOwnedTupleGo target (.ref it) v) Q E s := by
  obtain ⟨o, T, ho, hc, ⟨vs, hd⟩, hT⟩ := x.cls
  have go : wpAny (model B.prog B.w) A (do
      let (.ref r, .ref a) := (Value.ref it, v) | return
      let o ← load r
      match o.cls, o.data with
      | .type n, .fields vs =>
        if ["enumerate", "zip", "dict_itemiterator", "dict_reverseitemiterator", "odict_iterator", "itertools.zip_longest", "itertools.pairwise"].contains n && vs[0]? == some (rawInt a) then
          rule "for.unpacks-the-owned-tuple"
          updateField r 0 .none
      | _, _ => pure ()) Q E s := by
    cases v with
    | ref a =>
      refine wpAny_bind (wpAny_load ho ?_)
      rw [hc, hd]
      simp only [hT, Bool.false_and, Bool.false_eq_true, if_false]
      exact wpAny_pure h
    | _ => exact wpAny_pure h
  cases target <;> first | exact go | exact wpAny_pure h

theorem KpW.ext {W} {s0 s : Shared} (k : KpW B W s0 s) {it : Addr} (hb : s0.heap.get? it = none) {h' : Heap} {t : Nat} (x : Heap.ExtBut it s.heap h') : KpW B W s0 { s with heap := h', toks := t } := by
  have ne : ∀ c o, s0.heap.get? c = some o → c ≠ it := fun c o e q => by subst q; rw [hb] at e; cases e
  refine ⟨fun c o e nw hf => x c o (ne c o e) (k.keep c o e nw hf), fun c o e nw => ?_, fun c o vs n e c' d => x c o (ne c o e) (k.tups c o vs n e c' d), fun c o e => ?_, k.gens, k.os⟩
  · obtain ⟨sl, q⟩ := k.data c o e nw; exact ⟨sl, x c _ (ne c o e) q⟩
  · obtain ⟨o', q, r⟩ := k.live c o e; exact ⟨o', x c _ (ne c o e) q, r⟩

theorem growBut {h h' : Heap} {it : Addr} {o : Obj} (ho : h.get? it = some o) (hc : o.cls ≠ .type "tuple") (x : Heap.ExtBut it h h') : Grow h h' := fun a oa vs n e c d =>
  x a oa (fun q => by subst q; rw [ho] at e; cases e; exact hc c) e

theorem Itr.next {W} {A : Around} {s0 s : Shared} {it : Addr} {dep : Option Addr} {d : D} {ds : List D} {E} (x : Itr s.heap it dep (d :: ds)) (hdep : dep ≠ some it) (k : KpW B W s0 s) (h0 : s0.heap.get? it = none) :
    wpAny (model B.prog B.w) A (pyNext (.ref it)) (fun r s' => ∃ v, r = some v ∧ Im s'.heap v d ∧ Itr s'.heap it dep ds ∧ KpW B W s0 s' ∧ ∃ h' t, s' = { s with heap := h', toks := t } ∧ Heap.SameBut it s.heap h') E s := by
  generalize hl : d :: ds = L at x
  cases x with
  | @list l i vs L a b c =>
    obtain ⟨v, hv, hi⟩ := c.get (i := 0) (d := d) (by rw [← hl]; rfl)
    rw [List.getElem?_drop, Nat.add_zero] at hv
    obtain ⟨o, ho, hc, hd⟩ := id a
    refine wpAny_pyNext_list_item a b (by simpa using hv) fun h' a' hs => ?_
    have g := growBut ho (by rw [hc]; decide) hs.extBut
    have ne : l ≠ it := fun q => hdep (by rw [q])
    refine ⟨v, rfl, hi.grow g, .list a' (b.extBut hs.extBut ne) ?_, k.ext h0 hs.extBut, h', s.toks, rfl, hs⟩
    have := (c.drop 1).grow g
    rw [← hl, List.drop_drop] at this
    exact this
  | @tup l i vs L a b c =>
    obtain ⟨v, hv, hi⟩ := c.get (i := 0) (d := d) (by rw [← hl]; rfl)
    rw [List.getElem?_drop, Nat.add_zero] at hv
    obtain ⟨o, ho, hc, hd⟩ := id a
    obtain ⟨o2, ho2, hc2, m, hd2⟩ := id b
    refine wpAny_pyNext_tuple_item a b (by simpa using hv) fun h' a' hs => ?_
    have g := growBut ho (by rw [hc]; decide) hs.extBut
    refine ⟨v, rfl, hi.grow g, .tup a' ⟨o2, g _ _ _ _ ho2 hc2 hd2, hc2, m, hd2⟩ ?_, k.ext h0 hs.extBut, h', s.toks, rfl, hs⟩
    have := (c.drop 1).grow g
    rw [← hl, List.drop_drop] at this
    exact this
  | @rng x m a =>
    cases m with
    | zero => cases hl
    | succ m =>
      cases hl
      refine wpAny_pyNext_range_item a (by omega) fun h' a' hs => ?_
      exact ⟨_, rfl, .int _ _, .rng (by simpa using a'), k.ext h0 hs.extBut, h', _, rfl, hs⟩
  | @asc x t i a =>
    have hx : x.cps[i]? = some (x.cps.toList.getD i 0) ∧ d = .str ⟨#[x.cps.toList.getD i 0]⟩ ∧ ds = (signsD x).drop (i + 1) := by
      have h1 : ((signsD x).drop i)[0]? = some d := by rw [← hl]; rfl
      have h2 : ((signsD x).drop i).drop 1 = ds := by rw [← hl]; rfl
      rw [List.getElem?_drop, Nat.add_zero, signsD, List.getElem?_map] at h1
      rw [List.drop_drop] at h2
      cases e : x.cps.toList[i]? with
      | none => rw [e] at h1; cases h1
      | some c => rw [e] at h1; cases h1; rw [List.getD_eq_getElem?_getD, e]; exact ⟨by rw [← Array.getElem?_toList]; exact e, rfl, h2.symm⟩
    refine wpAny_pyNext_ascii_item a hx.1 fun h' a' hs => ?_
    rw [hx.2.1, hx.2.2]
    exact ⟨_, rfl, .str _ _, .asc a', k.ext h0 hs.extBut, h', _, rfl, hs⟩
  | @wid x t i a =>
    have hx : x.cps[i]? = some (x.cps.toList.getD i 0) ∧ d = .str ⟨#[x.cps.toList.getD i 0]⟩ ∧ ds = (signsD x).drop (i + 1) := by
      have h1 : ((signsD x).drop i)[0]? = some d := by rw [← hl]; rfl
      have h2 : ((signsD x).drop i).drop 1 = ds := by rw [← hl]; rfl
      rw [List.getElem?_drop, Nat.add_zero, signsD, List.getElem?_map] at h1
      rw [List.drop_drop] at h2
      cases e : x.cps.toList[i]? with
      | none => rw [e] at h1; cases h1
      | some c => rw [e] at h1; cases h1; rw [List.getD_eq_getElem?_getD, e]; exact ⟨by rw [← Array.getElem?_toList]; exact e, rfl, h2.symm⟩
    refine wpAny_pyNext_wide_item a hx.1 fun h' a' hs => ?_
    rw [hx.2.1, hx.2.2]
    exact ⟨_, rfl, .str _ _, .wid a', k.ext h0 hs.extBut, h', _, rfl, hs⟩
theorem Itr.fin {W} {A : Around} {s0 s : Shared} {it : Addr} {dep : Option Addr} {E} (x : Itr s.heap it dep []) (hh : A.handled = none) (k : KpW B W s0 s) (h0 : s0.heap.get? it = none) :
    wpAny (model B.prog B.w) A (pyNext (.ref it)) (fun r s' => r = none ∧ KpW B W s0 s' ∧ ∃ h', s' = { s with heap := h' } ∧ Heap.ExtBut it s.heap h' ∧ Grow s.heap h') E s := by
  generalize hl : ([] : List D) = L at x
  have nil : ∀ {vs : Array Value} {i : Nat}, Ims s.heap (vs.toList.drop i) [] → vs[i]? = none := fun {vs i} c => by
    have := c.length
    simp at this
    exact Array.getElem?_eq_none (by omega)
  have snil : ∀ {x : Str} {i : Nat}, [] = (signsD x).drop i → x.cps[i]? = none := fun {x i} e => by
    have := congrArg List.length e
    simp [signsD] at this
    exact Array.getElem?_eq_none (by omega)
  have done : ∀ h', Heap.ExtBut it s.heap h' → (none : Option Value) = none ∧ KpW B W s0 { s with heap := h' } ∧ ∃ h'', ({ s with heap := h' } : Shared) = { s with heap := h'' } ∧ Heap.ExtBut it s.heap h'' ∧ Grow s.heap h'' := by
    intro h' hs
    have hc : ∃ o, s.heap.get? it = some o ∧ o.cls ≠ .type "tuple" := by
      cases x with
      | list a b c => obtain ⟨o, ho, hc, hd⟩ := a; exact ⟨o, ho, by rw [hc]; decide⟩
      | tup a b c => obtain ⟨o, ho, hc, hd⟩ := a; exact ⟨o, ho, by rw [hc]; decide⟩
      | rng a => exact ⟨_, a, by show Value.type _ ≠ _; decide⟩
      | asc a => obtain ⟨o, ho, hc, hd⟩ := a; exact ⟨o, ho, by rw [hc]; decide⟩
      | wid a => obtain ⟨o, ho, hc, hd⟩ := a; exact ⟨o, ho, by rw [hc]; decide⟩
    obtain ⟨o, ho, hc⟩ := hc
    exact ⟨rfl, k.ext h0 hs (t := s.toks), h', rfl, hs, growBut ho hc hs⟩
  cases x with
  | list a b c => exact wpAny_pyNext_list_end hh a b (nil (hl ▸ c)) done
  | tup a b c => exact wpAny_pyNext_tuple_end hh a b (nil (hl ▸ c)) done
  | @rng x m a =>
    cases m with
    | zero => exact wpAny_pyNext_range_end hh a (by simp) done
    | succ m => cases hl
  | asc a => exact wpAny_pyNext_ascii_end hh a (snil hl) done
  | wid a => exact wpAny_pyNext_wide_end hh a (snil hl) done

noncomputable def IterS (B : Bs) (n : Nat) (r : AV) (ds : List D) : Prop :=
  ∀ env oa A s0 s v (E : Value → Shared → Prop), Bas B s → Ar B A n s → VR B env oa s0 s v r → (∀ a, s0.heap.get? a = none → ¬ FW env oa a) →
    wpAny (model B.prog B.w) A (pyIter v) (fun it s' => ∃ a dep, it = .ref a ∧ Itr s'.heap a dep ds ∧ s.heap.get? a = none ∧ dep ≠ some a ∧ (∀ l, dep = some l → ¬ FW env oa l ∧ ∃ o, s.heap.get? l = some o) ∧ Kp B s s') E s
theorem IterS.list {m : Md} {l : List D} (hm : ∀ i, m ≠ .ow i) : IterS B n (.ct m (.lst l)) l := fun env oa A s0 s v E b a x hz => by
  obtain ⟨a, vs, rfl, h1, h2⟩ := x.lst
  have hf : ¬ FW env oa a := by
    cases m with
    | fz => obtain ⟨a', e, _, h⟩ := x; cases e; exact h
    | fr => obtain ⟨a', e, _, h⟩ := x; cases e; exact hz a h
    | ow i => exact (hm i rfl).elim
  obtain ⟨o, ho, hc, md⟩ := id h1
  refine wpAny_pyIter_list h1 ⟨s.heap.objs.size, some a, rfl, .list ⟨_, Heap.get?_push_size _ rfl, rfl, rfl⟩ (h1.push _) (by simpa using h2.grow (push_kp (B := B) (s := s) _ (t := s.toks)).tups), fresh_size s, ?_, ?_, push_kp _⟩
  · intro q; cases q; rw [fresh_size s] at ho; cases ho
  · intro l' q; cases q; exact ⟨hf, o, ho⟩
theorem IterS.tup {l : List D} : IterS B n (.im (.tup l)) l := fun env oa A s0 s v E b a x hz => by
  obtain ⟨a, vs, rfl, h1, h2⟩ := x.isTup
  obtain ⟨o, ho, hc, md, hd⟩ := id h1
  refine wpAny_pyIter_tuple h1 ⟨s.heap.objs.size, none, rfl, .tup ⟨_, Heap.get?_push_size _ rfl, rfl, rfl⟩ ⟨o, Heap.get?_push_of_some _ ho, hc, md, hd⟩ (by simpa using h2.grow (push_kp (B := B) (s := s) _ (t := s.toks)).tups), fresh_size s, by simp, by simp, push_kp _⟩
theorem IterS.str {x : Str} : IterS B n (.im (.str x)) (signsD x) := fun env oa A s0 s v E b a y hz => by
  obtain ⟨t, rfl⟩ := y.str
  cases ha : x.cps.all (· < 128) with
  | true => exact wpAny_pyIter_ascii ha ⟨s.heap.objs.size, none, rfl, .asc (i := 0) (x := x) (t := t) ⟨_, Heap.get?_push_size _ rfl, rfl, rfl⟩, fresh_size s, by simp, by simp, push_kp _⟩
  | false => exact wpAny_pyIter_wide ha ⟨s.heap.objs.size, none, rfl, .wid (i := 0) (x := x) (t := t) ⟨_, Heap.get?_push_size _ rfl, rfl, rfl⟩, fresh_size s, by simp, by simp, push_kp _⟩
end
end Mine
end

section
open PySem PySem.W PyProof.Rows PySem.Calls PyProof
set_option Elab.async false
set_option maxRecDepth 100000
set_option linter.unusedVariables false
namespace Mine
section
variable {B : Bs} {F : Fi} {X : Str → Prop} {n : Nat} {ρ : List (Option Sl)}

theorem BuiS.range1 (k : Int) : BuiS B n (.type "range") [.im (.int k)] (.ct .fr (.rng 0 k)) := .one fun env oa A s0 s v E b a x => by
  obtain ⟨t, rfl⟩ := x.int
  exact call_range_1 ⟨push_kp _, _, rfl, ⟨_, _, _, IsRange.new ..⟩, fresh_size s⟩
theorem BuiS.range2 (j k : Int) : BuiS B n (.type "range") [.im (.int j), .im (.int k)] (.ct .fr (.rng j k)) := .two fun env oa A s0 s v u E b a x y => by
  obtain ⟨t, rfl⟩ := x.int
  obtain ⟨t', rfl⟩ := y.int
  exact call_range_2 ⟨push_kp _, _, rfl, ⟨_, _, _, IsRange.new ..⟩, fresh_size s⟩
theorem IterS.rng {m : Md} {j k : Int} (h1 : -(2 ^ 62) ≤ j) (h2 : j < 2 ^ 62) (h3 : -(2 ^ 62) ≤ k) (h4 : k < 2 ^ 62) : IterS B n (.ct m (.rng j k)) (intsFrom j (k - j).toNat) := fun env oa A s0 s v E b a x hz => by
  obtain ⟨a, rfl, t, u, w, hr⟩ := x.cont
  refine wpAny_pyIter_range hr (small_one h1 h2 h3 h4) ⟨s.heap.objs.size, none, rfl, .rng ?_, fresh_size s, by simp, by simp, push_kp _⟩
  rw [rangeSize_nat]
  exact Heap.get?_push_size _ rfl

structure AsW (B : Bs) (F : Fi) (n : Nat) (ρ : List (Option Sl)) (target : Expr) (d : D) (Q : List (Option Sl) → Prop) : Prop where
  go : ∀ env oa A s v (E : Value → Shared → Prop), Rp B F env oa ρ s → Ar B A n s → Im s.heap v d →
    wpAny (model B.prog B.w) A (assign target env v) (fun _ s' => ∃ ρ' oa', Q ρ' ∧ Rp B F env oa' ρ' s' ∧ KpW B (Priv env) s s' ∧ OwnFrom s oa oa' ∧ ∀ K, F.vars.length ≤ K → oa' K = oa K) E s
theorem oaSet_far {oa : Nat → Option Addr} {i : Nat} {v : Value} {d : D} {K : Nat} (h : K ≠ i) : oaSet oa i v (.im d) K = oa K := by simp [oaSet, h]
theorem Fi.lt (F : Fi) {i : Nat} {p : Str × Kd} (h : F.vars[i]? = some p) : i < F.vars.length := (List.getElem?_eq_some_iff.mp h).1
theorem AsW.name {x pos d} {Q : List (Option Sl) → Prop} (i : Nat) {k : Kd} (hx : F.vars[i]? = some (x, k)) (hkd : k ≠ .fre) (hi : i < F.own) (h : Q (ρ.set i (some (.im d)))) : AsW B F n ρ (.Name x pos) d Q :=
  .mk fun env oa A s v E R a hv => wpAny_assign_Name (wpAny_mono (storeVar R (Kp.refl _) (r := .im d) hv hx rfl hkd hi) (fun _ s' hz1 => by obtain ⟨h1, h2, h3, _⟩ := hz1; exact ⟨_, _, h, h1, h2, h3, fun K hK => oaSet_far (by have := F.lt hx; (clear hi; omega))⟩) fun _ _ x => x)
theorem assignEach_name {x p es env} : assignEach (.Name x p :: es) env = (false, assign (.Name x p) env) :: assignEach es env := by
  rw [assignEach]; intro t p' q; cases q
theorem AsW.two {x y px py k pos d e} {Q : List (Option Sl) → Prop} (i j : Nat) {kx ky : Kd} (hx : F.vars[i]? = some (x, kx)) (hy : F.vars[j]? = some (y, ky)) (hkx : kx ≠ .fre) (hky : ky ≠ .fre) (hi : i < F.own) (hj : j < F.own)
    (h : Q ((ρ.set i (some (.im d))).set j (some (.im e)))) (hq : B.quiet = true := by assumption) : AsW B F n ρ (.Tuple [.Name x px, .Name y py] k pos) (.tup [d, e]) Q := by
  refine .mk ?_
  intro env oa A s v E R a hv
  obtain ⟨b, o, vs, m, rfl, h1, h2, h3, h4⟩ : ∃ a o vs m, v = .ref a ∧ s.heap.get? a = some o ∧ o.cls = .type "tuple" ∧ o.data = .seq vs m ∧ Ims s.heap vs.toList [d, e] := by
    cases hv with | tup q1 q2 q3 q4 => exact ⟨_, _, _, _, rfl, q1, q2, q3, q4⟩
  have hl := h4.length
  obtain ⟨v1, v2, hvs⟩ : ∃ v1 v2, vs.toList = [v1, v2] := by
    exact len2 hl
  rw [hvs] at h4
  cases h4 with | cons m1 r1 => cases r1 with | cons m2 r2 =>
  have he : assignEach [.Name x px, .Name y py] env = [(false, assign (.Name x px) env), (false, assign (.Name y py) env)] := by rw [assignEach_name, assignEach_name]; rfl
  refine wpAny_assign_Tuple (a.handled hq) ⟨o, h1, h2, m, h3⟩ (by rw [he, ← Array.length_toList, hvs]; rfl) (by rw [he]; rfl) fun h' hs => ?_
  rw [he, hvs]
  have k0 : Kp B s { s with heap := h' } := by
    have hne : ∀ c ob, s.heap.get? c = some ob → c ≠ s.heap.objs.size := fun c ob q => Nat.ne_of_lt (Heap.lt_size q)
    exact Kp.of (t := s.toks) fun c ob q => hs c ob (hne c ob q) q
  show wpAny _ _ (do holding [v2] (assign (.Name x px) env v1); assignInOrder [assign (.Name y py) env] [v2]) _ _ _
  refine wpAny_bind (wpAny_holding (wpAny_assign_Name (wpAny_mono (storeVar R k0 (r := .im d) (m1.grow k0.tups) hx rfl hkx hi) (fun _ s1 hz2 => ?_) fun _ _ x => x)))
  obtain ⟨R1, k1', o1, _⟩ := hz2
  have k1 : KpW B (Priv env) s s1 := (Kp.toW k0).trans k1' fun _ x => .inl x
  show wpAny _ _ (do holding [] (assign (.Name y py) env v2); assignInOrder [] []) _ _ _
  refine wpAny_bind (wpAny_holding (wpAny_assign_Name (wpAny_mono (storeVar R1 (Kp.refl _) (r := .im e) (m2.grow k1.tups) hy rfl hky hj) (fun _ s2 hz3 => ?_) fun _ _ x => x)))
  obtain ⟨R2, k2, o2, _⟩ := hz3
  exact wpAny_pure ⟨_, _, h, R2, k1.trans k2 (fun _ x => .inl x), o1.trans k1 o2, fun K hK => (oaSet_far (by have := F.lt hy; (clear hl hj hi; omega))).trans (oaSet_far (by have := F.lt hx; (clear hl hj hi; omega)))⟩

theorem notFW {env : Env} {oa oa' : Nat → Option Addr} {s : Shared} {a : Addr} (h : ¬ FW env oa a) (o : OwnFrom s oa oa') (hl : ∃ ob, s.heap.get? a = some ob) : ¬ FW env oa' a := by
  intro q
  rcases FW.from o a q with y | y
  · exact h y
  · obtain ⟨ob, hb⟩ := hl; rw [y] at hb; cases hb


noncomputable def ItCls (o : Obj) : Prop := (∃ vs, o.data = .fields vs) ∧ ∃ T, o.cls = .type T ∧ T ≠ "range" ∧ T ≠ "tuple" ∧ T ≠ "frame"
theorem Itr.itCls {h : Heap} {it : Addr} {dep ds} (x : Itr h it dep ds) : ∃ o, h.get? it = some o ∧ ItCls o := by
  cases x with
  | list a b c => obtain ⟨o, ho, hc, hd⟩ := a; exact ⟨o, ho, ⟨_, hd⟩, _, hc, by decide, by decide, by decide⟩
  | tup a b c => obtain ⟨o, ho, hc, hd⟩ := a; exact ⟨o, ho, ⟨_, hd⟩, _, hc, by decide, by decide, by decide⟩
  | rng a => exact ⟨_, a, ⟨_, rfl⟩, _, rfl, by decide, by decide, by decide⟩
  | asc a => obtain ⟨o, ho, hc, hd⟩ := a; exact ⟨o, ho, ⟨_, hd⟩, _, hc, by decide, by decide, by decide⟩
  | wid a => obtain ⟨o, ho, hc, hd⟩ := a; exact ⟨o, ho, ⟨_, hd⟩, _, hc, by decide, by decide, by decide⟩
theorem ContAt.ne {h : Heap} {a it : Addr} {c : Cont} {o : Obj} (x : ContAt B h a c) (ho : h.get? it = some o) (hc : ItCls o) : a ≠ it := by
  intro q; subst q
  obtain ⟨⟨vs, hd⟩, T, hT, h1, h2, h3⟩ := hc
  cases c with
  | lst l => obtain ⟨o', vs', n, ho', hc', hd', _⟩ := x; rw [ho] at ho'; cases ho'; rw [hd] at hd'; cases hd'
  | dct l => obtain ⟨_, kvs, ⟨o', es, ep, ho', hc', hd', _⟩, _⟩ := x; rw [ho] at ho'; cases ho'; rw [hd] at hd'; cases hd'
  | rng j k => obtain ⟨t, u, v, ho'⟩ := x; rw [IsRange, ho] at ho'; cases ho'; cases hT; exact h1 rfl
  | exc c => obtain ⟨o', C, vs', ho', hm', hc', hd'⟩ := x; rw [ho] at ho'; cases ho'; rw [hT] at hc'; cases hc'
theorem Rp.ext {env oa} {s : Shared} {it : Addr} {o : Obj} {h' : Heap} {t : Nat} (R : Rp B F env oa ρ s) (ho : s.heap.get? it = some o) (hc : ItCls o) (hb : B.hB.get? it = none) (hf : ¬ FW env oa it) (x : Heap.ExtBut it s.heap h') (g : Grow s.heap h') :
    Rp B F env oa ρ { s with heap := h', toks := t } := by
  have hL : env.locals ≠ it := fun q => hf (.inl (.inl q.symm))
  have hC : ∀ y c, (y, c) ∈ env.cells → c ≠ it := fun y c hm q => by
    obtain ⟨v, oc, h1, h2⟩ := R.cellsLive y c hm
    obtain ⟨⟨vs, hd⟩, _⟩ := hc
    subst q; rw [ho] at h1; cases h1; rw [hd] at h2; cases h2
  have cell : ∀ {y c v}, env.cells.lookup y = some c → s.heap.IsCell c v → h'.IsCell c v := fun {y c v} hl hz4 => by obtain ⟨oc, h1, h2⟩ := hz4; exact ⟨oc, x c oc (hC y c (mem_of_lookup hl)) h1, h2⟩
  have ns : ∀ {m}, s.heap.Ns env.locals m → h'.Ns env.locals m := fun hz5 => by obtain ⟨oL, es, ep, h1, r⟩ := hz5; exact ⟨oL, es, ep, x _ _ hL h1, r⟩
  have var : ∀ {y k v}, VarAt env s.heap y k v → VarAt env h' y k v := fun {y k v} hv => by
    cases k with
    | loc => (obtain ⟨m, h1, h2⟩ := hv; exact ⟨m, ns h1, h2⟩)
    | cel => (obtain ⟨c, h1, h2⟩ := hv; exact ⟨c, h1, cell h1 h2⟩)
    | fre => (obtain ⟨c, h1, h2⟩ := hv; exact ⟨c, h1, cell h1 h2⟩)
  have cont : ∀ {a c}, ContAt B s.heap a c → ContAt B h' a c := fun {a c} y => y.of_same (fun ob e _ => x a ob (y.ne ho hc) e) g
  refine ⟨fun b ob e => x b ob (fun q => by subst q; rw [hb] at e; cases e) (R.base b ob e), R.scope, R.globals, R.builtins, ?_, ?_, R.apart, R.locCell, ?_, R.privNew, ?_, R.oinj, ?_⟩
  · (obtain ⟨m, h⟩ := R.ns; exact ⟨m, ns h⟩)
  · intro i y k h1 h2
    obtain ⟨c, v, h3, h4, h5⟩ := R.cells i y k h1 h2
    exact ⟨c, v, h3, cell h3 h4, h5⟩
  · intro y c hm
    obtain ⟨v, ob, h1, h2⟩ := R.cellsLive y c hm
    exact ⟨v, ob, x c ob (hC y c hm) h1, h2⟩
  · intro i y k sl h1 h2
    have z := R.slots i y k sl h1 h2
    cases sl with
    | im d => (obtain ⟨v, h3, h4⟩ := z; exact ⟨v, var h3, h4.grow g⟩)
    | fz c => (obtain ⟨a, h3, h4, h5⟩ := z; exact ⟨a, var h3, cont h4, h5⟩)
    | own c => (obtain ⟨a, h3, h4, h5⟩ := z; exact ⟨a, var h3, cont h4, h5⟩)
  · intro i a h
    obtain ⟨h1, h2, ob, h3⟩ := R.opriv i a h
    exact ⟨h1, h2, ob, x a ob (fun q => hf (.inr ⟨i, q ▸ h⟩)) h3⟩
theorem Ar.ext {A : Around} {s : Shared} {it : Addr} {o : Obj} {h' : Heap} {t : Nat} (a : Ar B A n s) (ho : s.heap.get? it = some o) (hc : ItCls o) (x : Heap.ExtBut it s.heap h') : Ar B A n { s with heap := h', toks := t } := by
  obtain ⟨l, f1, f2, f3⟩ := a.frames
  obtain ⟨⟨vs, hd⟩, T, hT, _, _, h3⟩ := hc
  refine ⟨a.depth, a.units, a.handled, l, f1, f2.of_keeps fun b ob e hnf => ⟨ob, x b ob (fun q => by subst q; rw [ho] at e; cases e; exact hnf _ hd) e, rfl⟩, fun L hL => ?_⟩
  obtain ⟨oL, es, ep, q1, q2, q3⟩ := f3 L hL
  exact ⟨oL, es, ep, x L oL (fun q => by subst q; rw [ho] at q1; cases q1; rw [hd] at q3; cases q3) q1, q2, q3⟩

theorem Ar.epw {A : Around} {W : Addr → Prop} {s s' : Shared} {e : Value} (a : Ar B A n s) (x : EPW B W X s e s') : Ar B A n s' :=
  by obtain ⟨_, _, _, _, _, _, k, _⟩ := x; exact a.kp k
theorem notedFly {A : Around} {env : Env} {W : Addr → Prop} {s0 s : Shared} {e : Value} (hd : Hd A env) (a : Ar B A n s) (x : EPW B W X s0 e s) :
    notedBy (model B.prog B.w) A env (fun e s' => cameBackBy (model B.prog B.w) A env (EPW B W X s0) e s') e s := by
  obtain ⟨c, cv, ad, h1, h2, rfl, h4, h5⟩ := x
  obtain ⟨⟨l, hl⟩, hf⟩ := hd
  have fr : Fr1 B A env s := by
    obtain ⟨l', f1, f2, f3⟩ := a.frames
    rw [hl] at f1; cases f1
    exact ⟨l, hl, f2, f3⟩
  refine wpAny_mono (noteFly hf fr h4 h5) (fun _ s1 hz6 => ?_) fun _ _ x => x
  obtain ⟨k1, y⟩ := hz6
  show wpAny _ _ _ _ _ _
  have y' := y
  obtain ⟨g0, o, vs, ho, hc, hdt, hsz, T, oT, ts, q1, q⟩ := y
  refine wpAny_bind (wpAny_field ho hdt q1 ?_)
  rw [if_neg (show ¬ (Value.ref T == Value.none) = true from by simp)]
  exact wpAny_mono (flightFly k1 y') (fun _ s2 hz7 => by obtain ⟨k2, y2⟩ := hz7; exact ⟨c, cv, ad, h1, h2, rfl, k2, y2.fly⟩) fun _ _ x => x

theorem SW.for_ {target iter : Expr} {body orelse : List Stmt} {pos : Pos} {Q : Fl → List (Option Sl) → Prop}
    (h : EW B F X n ρ iter fun r => ∃ ds, IterS B n r ds ∧ ∃ I : List D → List (Option Sl) → Prop, I ds ρ ∧
      (∀ d rest ρ', I (d :: rest) ρ' → AsW B F n ρ' target d fun ρ2 => SWs B F X n ρ2 body fun fl ρ3 => match fl with | .next => I rest ρ3 | .cont => I rest ρ3 | .brk => Q .next ρ3 | .ret r => Q (.ret r) ρ3) ∧
      (∀ ρ', I [] ρ' → SWs B F X n ρ' orelse Q))
    (hs : ∀ env x, foldedSetIterable iter env x = pure x := by intros; rfl) (hq : B.quiet = true := by assumption) : SW B F X n ρ (.For target iter body orelse pos) Q := by
  refine .mk ?_
  intro env oa A s hd R a
  refine wpAny_For (wpAny_mono (h.go env oa A s R a) (fun v s1 hz8 => ?_) fun _ _ x => x.toW) (hs env)
  obtain ⟨r, ⟨ds, hi, I, hI, hturn, hend⟩, k1, x1⟩ := hz8
  refine wpAny_mono (hi env oa A s s1 v _ (R.kp k1).base (a.kp k1) x1 fun b hb => (R.new hb).1) (fun itv s2 hz9 => ?_) fun _ _ x => x
  obtain ⟨it, dep, e, hit, hn, hne, hdep, k2⟩ := hz9
  subst e
  have k12 := k1.trans k2
  have hn0 : s.heap.get? it = none := k1.fresh hn
  -- the turns
  refine codeAny_loop' rfl (fun m t => ∃ ds ρ' oa', ds.length = m ∧ I ds ρ' ∧ Rp B F env oa' ρ' t ∧ Ar B A n t ∧ KpW B (FW env oa) s t ∧ OwnFrom s oa oa' ∧ Itr t.heap it dep ds ∧ ¬ FW env oa' it ∧ (∀ l, dep = some l → ¬ FW env oa' l))
    (fun m t ht => ?_) ds.length ⟨ds, ρ, oa, rfl, hI, R.kp k12, a.kp k12, k12.toW, OwnFrom.refl _ _, hit, (R.new hn0).1, fun l hl => (hdep l hl).1⟩
  obtain ⟨ds', ρ', oa', rfl, hI', R', a', kt, ot, hit', hf1, hf2⟩ := ht
  show wpAny _ _ ((forTurn target (.ref it) body orelse env).onRaise (fun x => do noteFrame x env; theTreesLotGoes x)) _ _ t
  refine wpAny_noted ?_
  unfold forTurn
  have hb : B.hB.get? it = none := (R.new hn0).2
  have under : A.under (.forLoop target (.ref it) body orelse env) = A := Around.under_of_weight rfl
  obtain ⟨oi, hoi, hci⟩ := hit'.itCls
  cases ds' with
  | nil =>
    refine wpAny_bind (wpAny_standAt (wpAny_bind (wpAny_onRaise (wpAny_mono (hit'.fin (a'.handled hq) kt hn0 (E := fun _ _ => False)) (fun r t1 hz10 => ?_) fun _ _ x => x.elim))))
    obtain ⟨e, kt1, h', e', hx, hg⟩ := hz10
    subst e; subst e'
    refine wpAny_pure (.inr ⟨rfl, codeAny_block ?_⟩)
    have R1 := R'.ext hoi hci hb hf1 hx hg (t := t.toks)
    have a1 := a'.ext hoi hci hx (t := t.toks)
    exact wpAny_mono ((hend ρ' hI').run hd R1 a1 kt1 ot) (fun f s3 x => x) fun e s3 x => notedFly hd (a.epw x) x
  | cons d ds' =>
    refine wpAny_bind (wpAny_standAt (wpAny_bind (wpAny_onRaise (wpAny_mono (hit'.next hne kt hn0 (E := fun _ _ => False)) (fun r t1 hz11 => ?_) fun _ _ x => x.elim))))
    obtain ⟨v, e, hv, hit1, kt1, h', tk, e', hx⟩ := hz11
    subst e; subst e'
    have hg := growBut hoi (by obtain ⟨_, T, hT, _, h2, _⟩ := hci; rw [hT]; intro q; cases q; exact h2 rfl) hx.extBut
    have R1 := R'.ext hoi hci hb hf1 hx.extBut hg (t := tk)
    have a1 := a'.ext hoi hci hx.extBut (t := tk)
    refine wpAny_bind (hit1.letGo ?_)
    refine wpAny_bind (wpAny_mono ((hturn d ds' ρ' hI').go env oa' A _ v _ R1 a1 hv) (fun _ t2 hz12 => ?_) fun _ _ x => x)
    obtain ⟨ρ2, oa2, q2, R2, kp2, o2, _⟩ := hz12
    have k2' : KpW B (FW env oa') _ t2 := kp2.mono fun _ x => .inl x
    have lit : ∃ o, h'.get? it = some o := by obtain ⟨o, ho, _⟩ := hit1.itCls; exact ⟨o, ho⟩
    have hf12 := notFW hf1 o2 lit
    have kt2 := kt1.trans k2' (FW.from ot)
    have ot2 := ot.trans kt1 o2
    have hdl : ∀ l, dep = some l → ∃ o, h'.get? l = some o := fun l hl => by
      subst hl
      cases hit1 with | list a b c => (obtain ⟨o, ho, _⟩ := b; exact ⟨o, ho⟩)
    have hf22 : ∀ l, dep = some l → ¬ FW env oa2 l := fun l hl => notFW (hf2 l hl) o2 (hdl l hl)
    have hit2 := hit1.kp k2' hf1 hf2
    refine wpAny_bind (wpAny_mono (q2.go env oa2 A t2 hd R2 (a1.kp k2')) (fun f t3 x => ?_) fun e t3 x => notedFly hd (a.epw (x.back kt2 ot2)) (x.back kt2 ot2))
    obtain ⟨fl, ρ3, oa3, q3, r3, R3, k3, o3⟩ := x
    have kt3 := kt2.trans k3 (FW.from ot2)
    have ot3 := ot2.trans kt2 o3
    have lit2 : ∃ o, t2.heap.get? it = some o := by obtain ⟨o, ho, _⟩ := hit2.itCls; exact ⟨o, ho⟩
    have hdl2 : ∀ l, dep = some l → ∃ o, t2.heap.get? l = some o := fun l hl => by
      subst hl
      cases hit2 with | list a b c => (obtain ⟨o, ho, _⟩ := b; exact ⟨o, ho⟩)
    have again : I ds' ρ3 → ∃ m, m < (d :: ds').length ∧ ∃ ds ρ' oa', ds.length = m ∧ I ds ρ' ∧ Rp B F env oa' ρ' t3 ∧ Ar B A n t3 ∧ KpW B (FW env oa) s t3 ∧ OwnFrom s oa oa' ∧ Itr t3.heap it dep ds ∧ ¬ FW env oa' it ∧ (∀ l, dep = some l → ¬ FW env oa' l) := fun hI3 =>
      ⟨ds'.length, by simp, ds', ρ3, oa3, rfl, hI3, R3, (a1.kp k2').kp k3, kt3, ot3, hit2.kp k3 hf12 hf22, notFW hf12 o3 lit2, fun l hl => notFW (hf22 l hl) o3 (hdl2 l hl)⟩
    cases f with
    | next => cases fl with
      | next => exact wpAny_pure (.inl ⟨rfl, again q3⟩)
      | _ => exact r3.elim
    | cont => cases fl with
      | cont => exact wpAny_pure (.inl ⟨rfl, again q3⟩)
      | _ => exact r3.elim
    | brk => cases fl with
      | brk => exact wpAny_pure ⟨.next, ρ3, oa3, q3, trivial, R3, kt3, ot3⟩
      | _ => exact r3.elim
    | ret v => cases fl with
      | ret r => exact wpAny_pure ⟨.ret r, ρ3, oa3, q3, FlR.back (f := .ret v) (fl := .ret r) kt2 r3, R3, kt3, ot3⟩
      | _ => exact r3.elim
end
end Mine
end

section
open PySem PySem.W PyProof.Rows PySem.Calls PyProof
set_option Elab.async false
set_option maxRecDepth 100000
set_option linter.unusedVariables false
namespace Mine

theorem closureFor_lookup {scope : Scope} {env : Env} (h : ∀ x ∈ scope.names, x.2 = .free → ∃ c, env.cells.lookup x.1 = some c) :
    ∃ cl, closureFor scope env = pure cl ∧ (∀ p ∈ cl, env.cells.lookup p.1 = some p.2 ∧ (p.1, NameKind.free) ∈ scope.names) ∧ ∀ x ∈ scope.names, x.2 = .free → (cl.lookup x.1).isSome = true := by
  unfold closureFor
  have go : ∀ (l : List (Str × NameKind)) (acc : List (Str × Addr)), (∀ x ∈ l, x ∈ scope.names ∧ (x.2 = .free → ∃ c, env.cells.lookup x.1 = some c)) → (∀ p ∈ acc, env.cells.lookup p.1 = some p.2 ∧ (p.1, NameKind.free) ∈ scope.names) →
      ∃ cl, (forIn l acc fun (x : Str × NameKind) (r : List (Str × Addr)) => (if (x.2 == .free) = true then (do let c ← cellOf env x.1; pure (.yield ((x.1, c) :: r))) else pure (.yield r) : Sem (ForInStep (List (Str × Addr))))) = pure cl ∧
        (∀ p ∈ cl, env.cells.lookup p.1 = some p.2 ∧ (p.1, NameKind.free) ∈ scope.names) ∧ (∀ x ∈ l, x.2 = .free → (cl.lookup x.1).isSome = true) ∧ ∀ y, (acc.lookup y).isSome = true → (cl.lookup y).isSome = true := by
    intro l
    induction l with
    | nil => intro acc _ ha; exact ⟨acc, rfl, ha, fun x hx => (nomatch hx), fun y hy => hy⟩
    | cons p r ih =>
      intro acc hl ha
      obtain ⟨x, k⟩ := p
      rw [List.forIn_cons]
      by_cases hk : (k == .free) = true
      · have hk' : k = .free := by simpa using hk
        obtain ⟨c, hc⟩ := (hl (x, k) List.mem_cons_self).2 hk'
        have hc' : env.cells.lookup x = some c := hc
        obtain ⟨cl, h1, h2, h3, h4⟩ := ih ((x, c) :: acc) (fun y hy => hl y (List.mem_cons_of_mem _ hy)) (fun p hp => by
          rcases List.mem_cons.mp hp with rfl | hp
          · exact ⟨hc', hk' ▸ (hl (x, k) List.mem_cons_self).1⟩
          · exact ha p hp)
        refine ⟨cl, ?_, h2, fun y hy hyf => ?_, fun y hy => h4 y ?_⟩
        · simp only [if_pos hk]
          rw [show cellOf env x = pure c from by unfold cellOf; rw [hc']]
          exact h1
        · rcases List.mem_cons.mp hy with rfl | hy
          · exact h4 _ (by simp)
          · exact h3 y hy hyf
        · rw [List.lookup_cons]; split
          · rfl
          · exact hy
      · obtain ⟨cl, h1, h2, h3, h4⟩ := ih acc (fun y hy => hl y (List.mem_cons_of_mem _ hy)) ha
        refine ⟨cl, ?_, h2, fun y hy hyf => ?_, h4⟩
        · simp only [if_neg hk]; exact h1
        · rcases List.mem_cons.mp hy with rfl | hy
          · exact absurd (by simpa using hyf) hk
          · exact h3 y hy hyf
  obtain ⟨cl, h1, h2, h3, _⟩ := go scope.names [] (fun x hx => ⟨hx, h x hx⟩) (fun p hp => (nomatch hp))
  refine ⟨cl, ?_, h2, h3⟩
  show ((forIn scope.names ([] : List (Str × Addr)) fun (x : Str × NameKind) (r : List (Str × Addr)) => (if (x.2 == .free) = true then (do let c ← cellOf env x.1; pure (.yield ((x.1, c) :: r))) else pure (.yield r) : Sem (ForInStep (List (Str × Addr))))) >>= fun r => pure r) = pure cl
  rw [h1]; rfl

noncomputable def relabelS (scope outer : Scope) : Scope :=
  { scope with names := scope.names.map fun (n, k) => if (k == .free && outer.kind == .function && outer.names.lookup n == some .cell) then (n, .cell) else (n, k) }
theorem relabel_eq {scope : Scope} {env : Env} {sc : Scope} (h : env.scope = sc) : relabel scope env = relabelS scope sc := by
  unfold relabel relabelS Env.kindOf; rw [h]

noncomputable def NoX : Str → Prop := fun _ => False
theorem EP.no {B : Bs} {s : Shared} {e s'} (x : EP B NoX s e s') : False := let ⟨_, _, _, h, _⟩ := x; h

noncomputable def capSlot : Option (Option Sl) → Option Sl
  | some (some (.own c _)) => some (.fz c)
  | some x => x
  | none => none

structure CompOk (F Fc : Fi) (scope : Scope) (m : Nat) (caps : List Nat) : Prop where
  sc : Fc.scope = relabelS scope F.scope
  nodup : (scope.names.map (·.1)).Nodup
  own : Fc.own = m
  kind : scope.kind = .function
  names : ∀ x ∈ scope.names, x.2 = .local → scope.names.lookup x.1 = some .local
  free : ∀ x ∈ scope.names, x.2 = .free → ∃ (i : Nat) (k : Kd), F.vars[i]? = some (x.1, k) ∧ k ≠ .loc
  targets : ∀ (i : Nat) x k, i < m → Fc.vars[i]? = some (x, k) → scope.names.lookup x = some k.kind ∧ k ≠ .fre
  outer : ∀ (i : Nat) x k, m ≤ i → Fc.vars[i]? = some (x, k) → scope.names.lookup x = some .free ∧ ∃ (j : Nat) (k' : Kd), caps[i - m]? = some j ∧ F.vars[j]? = some (x, k') ∧ k' ≠ .loc

theorem cellsFrom_lookup {x : Str} : ∀ (names : List (Str × NameKind)) (n : Nat) (acc : List (Str × Addr)), (∀ p ∈ names, p.1 = x → p.2 ≠ .cell) → (cellsFrom n names acc).lookup x = acc.lookup x
  | [], _, _, _ => rfl
  | (y, k) :: r, n, acc, h => by
    unfold cellsFrom
    split
    · rename_i hk
      rw [cellsFrom_lookup r (n + 1) _ fun p hp => h p (List.mem_cons_of_mem _ hp), List.lookup_cons]
      have : (x == y) = false := by
        cases q : x == y with
        | false => rfl
        | true => exact absurd (by simpa using hk) (h (y, k) List.mem_cons_self (beq_iff_eq.mp q).symm)
      rw [this]
    · exact cellsFrom_lookup r n acc fun p hp => h p (List.mem_cons_of_mem _ hp)
theorem cellsFrom_mem : ∀ (names : List (Str × NameKind)) (n : Nat) (acc : List (Str × Addr)) (p : Str × Addr), p ∈ cellsFrom n names acc → p ∈ acc ∨ n ≤ p.2
  | [], _, _, _, h => .inl h
  | (y, k) :: r, n, acc, p, h => by
    unfold cellsFrom at h
    split at h
    · rcases cellsFrom_mem r (n + 1) _ p h with h | h
      · rcases List.mem_cons.mp h with rfl | h
        · exact .inr (Nat.le_refl _)
        · exact .inl h
      · exact .inr (by omega)
    · exact cellsFrom_mem r n acc p h
end Mine
end

section
open PySem PySem.W PyProof.Rows PySem.Calls PyProof
set_option Elab.async false
set_option maxRecDepth 100000
set_option linter.unusedVariables false
namespace Mine

theorem cellsFrom_new : ∀ (names : List (Str × NameKind)) (h : Heap) (acc : List (Str × Addr)) (p : Str × Addr), p ∈ cellsFrom h.objs.size names acc → p ∈ acc ∨ ((pushCells h names).IsCell p.2 none ∧ h.objs.size ≤ p.2)
  | [], _, _, _, hp => .inl hp
  | (y, k) :: r, h, acc, p, hp => by
    unfold cellsFrom at hp
    unfold pushCells
    split at hp
    · rename_i hk
      rw [if_pos hk]
      have := cellsFrom_new r (h.push { cls := .type "cell", data := .cell none }) ((y, h.objs.size) :: acc) p (by rw [Heap.size_push]; exact hp)
      rcases this with q | q
      · rcases List.mem_cons.mp q with rfl | q
        · exact .inr ⟨⟨_, pushCells_keeps _ _ _ _ (Heap.get?_push_size _ rfl), rfl⟩, Nat.le_refl _⟩
        · exact .inl q
      · rw [Heap.size_push] at q; exact .inr ⟨q.1, by omega⟩
    · rename_i hk
      rw [if_neg hk]
      exact cellsFrom_new r h acc p hp
theorem cellsFrom_inj : ∀ (names : List (Str × NameKind)) (n : Nat) (acc : List (Str × Addr)), (∀ p ∈ acc, ∀ q ∈ acc, p.2 = q.2 → p.1 = q.1) → (∀ p ∈ acc, p.2 < n) →
    ∀ p ∈ cellsFrom n names acc, ∀ q ∈ cellsFrom n names acc, p.2 = q.2 → p.1 = q.1
  | [], _, _, h, _ => h
  | (y, k) :: r, n, acc, h, hl => by
    unfold cellsFrom
    split
    · refine cellsFrom_inj r (n + 1) _ (fun p hp q hq e => ?_) fun p hp => ?_
      · rcases List.mem_cons.mp hp with rfl | hp <;> rcases List.mem_cons.mp hq with rfl | hq
        · rfl
        · exact absurd (hl q hq) (by rw [← e]; exact Nat.lt_irrefl _)
        · exact absurd (hl p hp) (by rw [e]; exact Nat.lt_irrefl _)
        · exact h p hp q hq e
      · rcases List.mem_cons.mp hp with rfl | hp
        · exact Nat.lt_succ_self _
        · exact Nat.lt_succ_of_lt (hl p hp)
    · exact cellsFrom_inj r n acc h hl
theorem lookup_of_mem_nd {α : Type} : ∀ {l : List (Str × α)}, (l.map (·.1)).Nodup → ∀ {x : Str} {k : α}, (x, k) ∈ l → l.lookup x = some k
  | (y, k') :: r, nd, x, k, h => by
    rw [List.map_cons, List.nodup_cons] at nd
    rw [List.lookup_cons]
    rcases List.mem_cons.mp h with e | h
    · cases e; simp
    · have : (x == y) = false := by
        cases q : x == y with
        | false => rfl
        | true => exact absurd (List.mem_map.mpr ⟨_, h, (beq_iff_eq.mp q)⟩) nd.1
      rw [this]; exact lookup_of_mem_nd nd.2 h

theorem newEnvComp {M : Model} {A : Around} {E : Value → Shared → Prop} {s : Shared} {scope : Scope} {globals : Addr} {cl : List (Str × Addr)} {qual : Str} {env : Env} {Q : Env → Shared → Prop}
    (h : Q { scope, locals := s.heap.objs.size, globals, cells := cellsFrom (s.heap.objs.size + 1) scope.names cl, qual, func := none, code := env.code, frame := env.frame, builtins := env.builtins }
      { s with heap := pushCells (s.heap.push { cls := .type "dict", data := .dict #[] }) scope.names }) :
    wpAny M A (newFunctionEnv scope globals cl [] qual none .none (some env)) Q E s := by
  simp only [newFunctionEnv, Option.isSome_some, if_true]
  refine wpAny_bind (wpAny_alloc ?_)
  refine wpAny_bind (wpAny_layCells _ (fun name kind cells => by cases hkc : kind == NameKind.cell <;> simp [hkc]) _ _ _ _ ?_)
  rw [show ({ s with heap := s.heap.push { cls := .type "dict", data := .dict #[] } } : Shared).heap.objs.size = s.heap.objs.size + 1 from Heap.size_push ..]
  rw [List.forIn_nil]
  exact wpAny_bind (wpAny_pure (wpAny_pure h))

section
variable {B : Bs} {F : Fi} {X : Str → Prop} {n : Nat} {ρ : List (Option Sl)}

noncomputable def compStart0 (m : Nat) (ρ : List (Option Sl)) (caps : List Nat) : List (Option Sl) := List.replicate m none ++ caps.map fun j => capSlot ρ[j]?

theorem relabelS_lookup {scope outer : Scope} (nd : (scope.names.map (·.1)).Nodup) {x : Str} {k : NameKind} (h : scope.names.lookup x = some k) (hk : k ≠ .free) : (relabelS scope outer).names.lookup x = some k := by
  have hm : (x, k) ∈ (relabelS scope outer).names := by
    unfold relabelS
    refine List.mem_map.mpr ⟨(x, k), mem_of_lookup h, ?_⟩
    simp [hk]
  refine lookup_of_mem_nd ?_ hm
  unfold relabelS
  rw [List.map_map]
  have : ((fun (x : Str × NameKind) => x.1) ∘ fun (x : Str × NameKind) => match x with | (n, k) => if (k == .free && outer.kind == .function && outer.names.lookup n == some .cell) = true then (n, NameKind.cell) else (n, k)) = fun x => x.1 := by
    funext ⟨a, b⟩; simp only [Function.comp]; split <;> rfl
  rw [this]; exact nd

theorem relabelS_free {scope outer : Scope} {x : Str} (h : scope.names.lookup x = some .free) : (relabelS scope outer).names.lookup x ≠ some .local := by
  unfold relabelS
  intro q
  have go : ∀ l : List (Str × NameKind), l.lookup x = some .free → (l.map fun (n, k) => if (k == NameKind.free && outer.kind == .function && outer.names.lookup n == some .cell) then (n, NameKind.cell) else (n, k)).lookup x ≠ some .local := by
    intro l
    induction l with
    | nil => intro e; cases e
    | cons p r ih =>
      obtain ⟨y, k⟩ := p
      intro e
      rw [List.lookup_cons] at e
      rw [List.map_cons]
      cases hx : x == y with
      | true =>
        rw [hx] at e; cases e
        simp only
        split <;> (rw [List.lookup_cons, hx]; intro q; cases q)
      | false =>
        rw [hx] at e
        simp only
        split <;> (rw [List.lookup_cons, hx]; exact ih e)
  exact go _ h q
theorem compRp {env : Env} {oa : Nat → Option Addr} {s0 s : Shared} {Fc : Fi} {scope : Scope} {m K : Nat} {acc : Addr} {caps : List Nat} {cl : List (Str × Addr)} (R0 : Rp B F env oa ρ s0) (k0 : Kp B s0 s) (hacc0 : s0.heap.get? acc = none) (hacc : ∃ o, s.heap.get? acc = some o) (ok : CompOk F Fc scope m caps)
    (h1' : ∀ p ∈ cl, env.cells.lookup p.1 = some p.2 ∧ (p.1, NameKind.free) ∈ scope.names) (h2 : ∀ x ∈ scope.names, x.2 = .free → (cl.lookup x.1).isSome = true) :
    Rp B Fc { scope := relabel scope env, locals := s.heap.objs.size, globals := env.globals, cells := cellsFrom (s.heap.objs.size + 1) scope.names cl, qual := env.qual, func := none, code := env.code, frame := env.frame, builtins := env.builtins }
      (fun j => if j = K then some acc else none) (compStart0 m ρ caps) { s with heap := pushCells (s.heap.push { cls := .type "dict", data := .dict #[] }) scope.names } ∧
    Kp B s { s with heap := pushCells (s.heap.push { cls := .type "dict", data := .dict #[] }) scope.names } := by
  have R := R0.kp k0
  have h1 : ∀ p ∈ cl, env.cells.lookup p.1 = some p.2 := fun p hp => (h1' p hp).1
  have kk : ∀ b o, s.heap.get? b = some o → (pushCells (s.heap.push { cls := .type "dict", data := .dict #[] }) scope.names).get? b = some o := fun b o e => pushCells_keeps _ _ b o (Heap.get?_push_of_some _ e)
  have k : Kp B s { s with heap := pushCells (s.heap.push { cls := .type "dict", data := .dict #[] }) scope.names } := Kp.of (t := s.toks) kk
  refine ⟨?_, k⟩
  have hLn : (pushCells (s.heap.push { cls := .type "dict", data := .dict #[] }) scope.names).Ns s.heap.objs.size fun _ => none := (Heap.Ns.new s.heap (.type "dict")).keeps (pushCells_keeps _ _)
  have cnew := cellsFrom_new scope.names (s.heap.push { cls := .type "dict", data := .dict #[] }) cl
  rw [Heap.size_push] at cnew
  have clIn : ∀ p ∈ cl, p ∈ env.cells := fun p hp => mem_of_lookup (h1 p hp)
  have clLive : ∀ p ∈ cl, ∃ o, s.heap.get? p.2 = some o := fun p hp => by
    obtain ⟨v, o, ho, _⟩ := R.cellsLive p.1 p.2 (clIn p hp); exact ⟨o, ho⟩
  have clLt : ∀ p ∈ cl, p.2 < s.heap.objs.size := fun p hp => by obtain ⟨o, ho⟩ := clLive p hp; exact Heap.lt_size ho
  have newB : ∀ a, s.heap.objs.size ≤ a → B.hB.get? a = none := fun a ha => by
    cases e : B.hB.get? a with
    | none => rfl
    | some o => exact absurd (Heap.lt_size (R.base a o e)) (Nat.not_lt.mpr ha)
  have capLook : ∀ x, scope.names.lookup x = some .free → ∃ c, (cellsFrom (s.heap.objs.size + 1) scope.names cl).lookup x = some c ∧ env.cells.lookup x = some c := fun x hx => by
    rw [cellsFrom_lookup scope.names _ cl fun p hp hpx => by
      have := lookup_of_mem_nd ok.nodup (show (p.1, p.2) ∈ scope.names from hp)
      rw [hpx, hx] at this; intro q; rw [q] at this; cases this]
    obtain ⟨c, hc⟩ := Option.isSome_iff_exists.mp (h2 (x, .free) (mem_of_lookup hx) rfl)
    exact ⟨c, hc, h1 _ (mem_of_lookup hc)⟩
  have priv : ∀ a, Priv { scope := relabel scope env, locals := s.heap.objs.size, globals := env.globals, cells := cellsFrom (s.heap.objs.size + 1) scope.names cl, qual := env.qual, func := none, code := env.code, frame := env.frame, builtins := env.builtins } a →
      s.heap.get? a = none := by
    rintro a (q | q)
    · rw [q]; exact fresh_size s
    · cases e : s.heap.get? a with
      | none => rfl
      | some o => exact absurd (Heap.lt_size e) (Nat.not_lt.mpr (Nat.le_of_lt q.1))
  refine ⟨fun b o e => kk b o (R.base b o e), ?_, R.globals, R.builtins, ⟨_, hLn⟩, ?_, ?_, ?_, ?_, ?_, ?_, (fun i j a q q' => by split at q <;> split at q' <;> simp_all), (fun i a q => ?_)⟩
  · show relabel scope env = _; rw [ok.sc]; exact relabel_eq R.scope
  · intro i x kd hi hne
    by_cases hm : i < m
    · obtain ⟨hl, hnf⟩ := ok.targets i x kd hm hi
      cases kd with
      | loc => exact (hne rfl).elim
      | fre => exact (hnf rfl).elim
      | cel =>
        obtain ⟨c, hc⟩ := Option.isSome_iff_exists.mp (cellsFrom_some scope.names (s.heap.objs.size + 1) cl (.inl hl))
        have : (pushCells (s.heap.push { cls := .type "dict", data := .dict #[] }) scope.names).IsCell c none ∧ s.heap.objs.size + 1 ≤ c := ?_
        · exact ⟨c, none, hc, this.1, fun _ => this.2⟩
        rcases cnew _ (mem_of_lookup hc) with q | q
        · -- a name of its own is none of the closure
          exfalso
          have := lookup_of_mem_nd ok.nodup (h1' _ q).2
          rw [hl] at this; cases this
        · exact q
    · obtain ⟨hl, _⟩ := ok.outer i x kd (Nat.le_of_not_lt hm) hi
      obtain ⟨c, hc, hc'⟩ := capLook x hl
      obtain ⟨j, k', hj, hjne⟩ := ok.free (x, .free) (mem_of_lookup hl) rfl
      obtain ⟨c2, v, h3, h4, _⟩ := R.cells j x k' hj hjne
      rw [hc'] at h3; cases h3
      exact ⟨c, v, hc, h4.keeps kk, fun q => absurd q (by rw [ok.own]; exact hm)⟩
  · intro x y c hx hy
    exact cellsFrom_inj scope.names _ cl (fun p hp q hq e => R.apart p.1 q.1 p.2 (h1 p hp) (e ▸ h1 q hq)) (fun p hp => Nat.lt_succ_of_lt (clLt p hp)) _ (mem_of_lookup hx) _ (mem_of_lookup hy) rfl
  · intro x c hm q
    rcases cnew _ hm with r | r
    · have := clLt _ r; rw [q] at this; exact absurd this (Nat.lt_irrefl _)
    · exact absurd r.2 (by show ¬ _ ≤ c; rw [q]; exact Nat.not_succ_le_self _)
  · intro x c hm
    rcases cnew _ hm with r | r
    · obtain ⟨v, hv⟩ := R.cellsLive _ _ (clIn _ r)
      exact ⟨v, hv.keeps kk⟩
    · exact ⟨_, r.1⟩
  · rintro a (q | ⟨x, q⟩)
    · exact newB a (by rw [q]; exact Nat.le_refl _)
    · rcases cnew _ q with r | r
      · exact R.privNew a (.inr ⟨x, clIn _ r⟩)
      · exact newB a (Nat.le_of_succ_le r.2)
  · intro i x kd sl hi hρ
    have hm : m ≤ i := by
      by_cases q : i < m
      · unfold compStart0 at hρ
        rw [List.getElem?_append_left (by simpa using q), List.getElem?_replicate] at hρ
        split at hρ <;> cases hρ
      · exact Nat.le_of_not_lt q
    unfold compStart0 at hρ
    rw [List.getElem?_append_right (by simpa using hm), List.length_replicate, List.getElem?_map] at hρ
    obtain ⟨hl, j, k', hj, hjv, hjne⟩ := ok.outer i x kd hm hi
    rw [hj] at hρ
    obtain ⟨c, hc, hc'⟩ := capLook x hl
    have hkd : kd ≠ .loc := fun q => by
      subst q
      have hx := (Fc.at hi).1
      rw [ok.sc] at hx
      exact absurd hx (relabelS_free hl)
    rw [Option.map_some] at hρ
    cases hρj : ρ[j]? with
    | none => rw [hρj] at hρ; cases hρ
    | some o => cases o with
      | none => rw [hρj] at hρ; cases hρ
      | some sl0 =>
        rw [hρj] at hρ
        have old0 := R0.slots j x k' sl0 hjv hρj
        have old := SlotOk.kp k0 old0
        have var : ∀ v, VarAt env s.heap x k' v → VarAt { scope := relabel scope env, locals := s.heap.objs.size, globals := env.globals, cells := cellsFrom (s.heap.objs.size + 1) scope.names cl, qual := env.qual, func := none, code := env.code, frame := env.frame, builtins := env.builtins } (pushCells (s.heap.push { cls := .type "dict", data := .dict #[] }) scope.names) x kd v := fun v hv => by
          have : s.heap.IsCell c (some v) := by
            cases k' with
            | loc => exact (hjne rfl).elim
            | cel => obtain ⟨c2, h3, h4⟩ := hv; rw [hc'] at h3; cases h3; exact h4
            | fre => obtain ⟨c2, h3, h4⟩ := hv; rw [hc'] at h3; cases h3; exact h4
          cases kd with
          | loc => exact (hkd rfl).elim
          | cel => exact ⟨c, hc, this.keeps kk⟩
          | fre => exact ⟨c, hc, this.keeps kk⟩
        have nfw : ∀ a c', ContAt B s0.heap a c' → ¬ Priv env a → ¬ FW { scope := relabel scope env, locals := s.heap.objs.size, globals := env.globals, cells := cellsFrom (s.heap.objs.size + 1) scope.names cl, qual := env.qual, func := none, code := env.code, frame := env.frame, builtins := env.builtins } (fun j => if j = K then some acc else none) a := by
          rintro a c' hca hnp (q | ⟨j', q⟩)
          · obtain ⟨o, ho⟩ := (hca.kp k0 (fun x => x)).exists; rw [priv a q] at ho; cases ho
          · dsimp only at q
            split at q
            · cases q; obtain ⟨o, ho⟩ := hca.exists; rw [hacc0] at ho; cases ho
            · cases q
        cases sl0 with
        | im d => cases hρ; (obtain ⟨v, h3, h4⟩ := old; exact ⟨v, var v h3, h4.grow k.tups⟩)
        | fz c0 =>
          cases hρ
          obtain ⟨a, h3, h4, h5⟩ := old0
          exact ⟨a, var _ (h3.keep fun b o h => k0.data b o h (fun x => x)), (h4.kp k0 (fun x => x)).kp k (fun x => x), nfw a c0 h4 fun q => h5 (.inl q)⟩
        | own c0 =>
          cases hρ
          obtain ⟨a, h3, h4, h5, _⟩ := old0
          exact ⟨a, var _ (h3.keep fun b o h => k0.data b o h (fun x => x)), (h4.kp k0 (fun x => x)).kp k (fun x => x), nfw a c0 h4 (R0.opriv j a h5).1⟩
  · split at q
    · cases q
      obtain ⟨o, ho⟩ := hacc
      refine ⟨fun q => ?_, (R0.new hacc0).2, o, kk _ _ ho⟩
      rw [priv acc q] at ho; cases ho
    · cases q
end
end Mine
end

section
open PySem PySem.W PyProof.Rows PySem.Calls PyProof
set_option Elab.async false
set_option maxRecDepth 100000
set_option linter.unusedVariables false
namespace Mine
section
variable {B : Bs} {F : Fi} {X : Str → Prop} {n : Nat} {ρ : List (Option Sl)}

theorem Itr.again {A : Around} {s : Shared} {it : Addr} {dep ds} {Q : Value → Shared → Prop} {E} (x : Itr s.heap it dep ds) (h : Q (.ref it) s) : wpAny (model B.prog B.w) A (pyIter (.ref it)) Q E s := by
  cases x with
  | list a b c => exact wpAny_pyIter_listiter a h
  | tup a b c => exact wpAny_pyIter_tupleiter a h
  | rng a => exact wpAny_pyIter_rangeiter a h
  | asc a => exact wpAny_pyIter_striter_ascii a h
  | wid a => exact wpAny_pyIter_striter_wide a h

structure IfsW (B : Bs) (F : Fi) (n : Nat) (ρ : List (Option Sl)) (ifs : List Expr) (Q : Bool → Prop) : Prop where
  go : ∀ env oa A s (E : Value → Shared → Prop), Rp B F env oa ρ s → Ar B A n s →
    wpAny (model B.prog B.w) A (forIn ifs true fun c r => if r = true then do let ok ← isTrue c env (eval c env); pure (ForInStep.yield ok) else pure (ForInStep.yield r)) (fun b s' => Q b ∧ Kp B s s') E s
theorem IfsW.nil {Q : Bool → Prop} (h : Q true) : IfsW B F n ρ [] Q := .mk fun env oa A s E R a => wpAny_tests_nil ⟨h, Kp.refl _⟩
theorem IfsW.one {c : Expr} {Q : Bool → Prop} (h : TW B F NoX n ρ c Q) : IfsW B F n ρ [c] Q := .mk fun env oa A s E R a =>
  wpAny_tests_one (wpAny_mono (h.go env oa A s R a) (fun _ _ x => x) fun _ _ x => x.no.elim)

noncomputable def CW (B : Bs) (Fc : Fi) (n : Nat) (m : Nat) (ρc : List (Option Sl)) (target : Expr) (ifs : List Expr) (elt : Expr) (d : D) (out : Option D) : Prop :=
  AsW B Fc n ρc target d fun ρ2 => ρ2.drop m = ρc.drop m ∧ IfsW B Fc n ρ2 ifs fun b => if b = true then EW B Fc NoX n ρ2 elt fun r => ∃ e, out = some e ∧ r = .im e else out = none

theorem Rp.forget {env oa} {s : Shared} {ρ' : List (Option Sl)} (R : Rp B F env oa ρ s) (h : ∀ (i : Nat) sl, ρ'[i]? = some (some sl) → ρ[i]? = some (some sl)) : Rp B F env oa ρ' s :=
  ⟨R.base, R.scope, R.globals, R.builtins, R.ns, R.cells, R.apart, R.locCell, R.cellsLive, R.privNew, fun i x k sl h1 h2 => R.slots i x k sl h1 (h i sl h2), R.oinj, R.opriv⟩


theorem Rp.upd {env oa} {s : Shared} {a : Addr} {j : Nat} {h' : Heap} {t : Nat} (R : Rp B F env oa ρ s) (hj : oa j = some a) (hs : Heap.SameBut a s.heap h') (hl : ∃ o, h'.get? a = some o) (hc : ∃ c, ContAt B s.heap a c)
    (ρ' : List (Option Sl)) (hρ : ∀ (i : Nat) x k sl, F.vars[i]? = some (x, k) → ρ'[i]? = some (some sl) → (ρ[i]? = some (some sl) ∧ i ≠ j) ∨ (i = j ∧ ∃ c c' m, sl = .own c' m ∧ ρ[i]? = some (some (.own c m)) ∧ ContAt B h' a c')) :
    Rp B F env oa ρ' { s with heap := h', toks := t } ∧ Grow s.heap h' := by
  obtain ⟨c0, hc⟩ := hc
  have hnt : ∀ o, s.heap.get? a = some o → ∀ vs n, o.data = .seq vs n → o.cls ≠ .type "tuple" := fun o ho vs n hd q => by
    cases c0 with
    | lst l => obtain ⟨o', vs', n', h1, ⟨h2, _⟩, h3, _⟩ := hc; rw [ho] at h1; cases h1; rw [h2] at q; exact absurd q (by decide)
    | dct l => obtain ⟨_, kvs, ⟨o', es, ep, h1, h2, h3, _⟩, _⟩ := hc; rw [ho] at h1; cases h1; rw [h3] at hd; cases hd
    | rng x y => obtain ⟨t, u, v, h1⟩ := hc; rw [IsRange, ho] at h1; cases h1; cases hd
    | exc c => obtain ⟨o', C, vs', h1, h2, h3, h4⟩ := hc; rw [ho] at h1; cases h1; rw [h4] at hd; cases hd
  have hg : Grow s.heap h' := fun b o vs n e c d => (hs.2 b (fun q => by subst q; exact hnt o e vs n d c)).trans e
  refine ⟨?_, hg⟩
  obtain ⟨hp, hb, o0, ho0⟩ := R.opriv j a hj
  have hL : env.locals ≠ a := fun q => hp (.inl q.symm)
  have hC : ∀ y c, (y, c) ∈ env.cells → c ≠ a := fun y c hm q => by
    obtain ⟨v, oc, h1, h2⟩ := R.cellsLive y c hm
    subst q
    cases c0 with
    | lst l => obtain ⟨o', vs', n', h3, ⟨h4, _⟩, h5, _⟩ := hc; rw [h1] at h3; cases h3; rw [h2] at h5; cases h5
    | dct l => obtain ⟨_, kvs, ⟨o', es, ep, h3, h4, h5, _⟩, _⟩ := hc; rw [h1] at h3; cases h3; rw [h2] at h5; cases h5
    | rng x y => obtain ⟨t, u, v, h3⟩ := hc; rw [IsRange, h1] at h3; cases h3; cases h2
    | exc c => obtain ⟨o', C, vs', h3, h4, h5, h6⟩ := hc; rw [h1] at h3; cases h3; rw [h2] at h6; cases h6
  have cell : ∀ {y c v}, env.cells.lookup y = some c → s.heap.IsCell c v → h'.IsCell c v := fun {y c v} hl hz1 => by obtain ⟨oc, h1, h2⟩ := hz1; exact ⟨oc, (hs.2 c (hC y c (mem_of_lookup hl))).trans h1, h2⟩
  have ns : ∀ {m}, s.heap.Ns env.locals m → h'.Ns env.locals m := fun y => y.sameBut hs hL
  have var : ∀ {y k v}, VarAt env s.heap y k v → VarAt env h' y k v := fun {y k v} hv => by
    cases k with
    | loc => (obtain ⟨m, h1, h2⟩ := hv; exact ⟨m, ns h1, h2⟩)
    | cel => (obtain ⟨c, h1, h2⟩ := hv; exact ⟨c, h1, cell h1 h2⟩)
    | fre => (obtain ⟨c, h1, h2⟩ := hv; exact ⟨c, h1, cell h1 h2⟩)
  have cont : ∀ {b c}, b ≠ a → ContAt B s.heap b c → ContAt B h' b c := fun {b c} ne y => y.of_same (fun ob e _ => (hs.2 b ne).trans e) hg
  refine ⟨fun b ob e => (hs.2 b (fun q => by subst q; rw [hb] at e; cases e)).trans (R.base b ob e), R.scope, R.globals, R.builtins, ?_, ?_, R.apart, R.locCell, ?_, R.privNew, ?_, R.oinj, ?_⟩
  · (obtain ⟨m, h⟩ := R.ns; exact ⟨m, ns h⟩)
  · intro i y k h1 h2
    obtain ⟨c, v, h3, h4, h5⟩ := R.cells i y k h1 h2
    exact ⟨c, v, h3, cell h3 h4, h5⟩
  · intro y c hm
    obtain ⟨v, ob, h1, h2⟩ := R.cellsLive y c hm
    exact ⟨v, ob, (hs.2 c (hC y c hm)).trans h1, h2⟩
  · intro i y k sl h1 h2
    rcases hρ i y k sl h1 h2 with ⟨h3, hij⟩ | ⟨hij, c, c', m, rfl, h3, h4⟩
    · have z := R.slots i y k sl h1 h3
      cases sl with
      | im d => (obtain ⟨v, h3, h4⟩ := z; exact ⟨v, var h3, h4.grow hg⟩)
      | fz c => (obtain ⟨b, h3, h4, h5⟩ := z; exact ⟨b, var h3, cont (fun q => h5 (.inr ⟨j, q ▸ hj⟩)) h4, h5⟩)
      | own c => (obtain ⟨b, h3, h4, h5, h6⟩ := z; exact ⟨b, var h3, cont (fun q => hij (R.oinj i j a (q ▸ h5) hj)) h4, h5, h6⟩)
    · obtain ⟨b, h5, h6, h7, h8⟩ := R.slots i y k _ h1 h3
      rw [hij, hj] at h7; cases h7
      exact ⟨a, var h5, h4, hij ▸ hj, h8⟩
  · intro i b h
    obtain ⟨h1, h2, ob, h3⟩ := R.opriv i b h
    by_cases q : b = a
    · subst q; exact ⟨h1, h2, hl⟩
    · exact ⟨h1, h2, ob, (hs.2 b q).trans h3⟩
theorem Ar.same {A : Around} {s : Shared} {a : Addr} {c : Cont} {h' : Heap} {t : Nat} (ar : Ar B A n s) (hc : ContAt B s.heap a c) (hs : Heap.SameBut a s.heap h') : Ar B A n { s with heap := h', toks := t } := by
  obtain ⟨l, f1, f2, f3⟩ := ar.frames
  have hnf : ∀ L ∈ l.filterMap (·.frame), L ≠ a := fun L hL q => by
    obtain ⟨oL, es, ep, q1, q2, q3⟩ := f3 L hL
    subst q
    cases c with
    | lst l => obtain ⟨o', vs', n', h3, ⟨h4, _⟩, h5, _⟩ := hc; rw [q1] at h3; cases h3; rw [q2] at h4; exact absurd h4 (by decide)
    | dct l => obtain ⟨_, kvs, ⟨o', es, ep, h3, h4, h5, _⟩, _⟩ := hc; rw [q1] at h3; cases h3; have h6 := h4.1; rw [q2] at h6; exact absurd h6 (by decide)
    | rng x y => obtain ⟨t, u, v, h3⟩ := hc; rw [IsRange, q1] at h3; cases h3; exact absurd (show Value.type "range" = Value.type "frame" from q2) (by decide)
    | exc c => obtain ⟨o', C, vs', h3, h4, h5, h6⟩ := hc; rw [q1] at h3; cases h3; rw [q2] at h5; cases h5
  refine ⟨ar.depth, ar.units, ar.handled, l, f1, ?_, fun L hL => ?_⟩
  · have go : ∀ l : List Env, (∀ L ∈ l.filterMap (·.frame), L ≠ a) → s.heap.FunFrames B.hB l → Heap.FunFrames h' B.hB l := by
      intro l
      induction l with
      | nil => intro _ _; trivial
      | cons e r ih =>
        rintro hne ⟨hk, ⟨L, o, hf, hn, ho, hd⟩, hr⟩
        rw [List.filterMap_cons, hf] at hne
        exact ⟨hk, ⟨L, o, hf, hn, (hs.2 L (hne L List.mem_cons_self)).trans ho, hd⟩, ih (fun L' hL' => hne L' (List.mem_cons_of_mem _ hL')) hr⟩
    exact go l hnf f2
  · obtain ⟨oL, es, ep, q1, q2, q3⟩ := f3 L hL
    exact ⟨oL, es, ep, (hs.2 L (hnf L hL)).trans q1, q2, q3⟩

theorem compLoop {A : Around} {Fc : Fi} {m : Nat} {ρc : List (Option Sl)} {elt target iter : Expr} {ifs : List Expr} {scope : Scope} {pos : Pos} {it acc : Addr} {dep : Option Addr} {cenv : Env} {oa : Nat → Option Addr} {K : Nat} {s s4 : Shared} {ds : List D} {f : D → Option D} {R : Result → Shared → Prop}
    (hbs : Bas B s) (hK : Fc.vars.length ≤ K) (hoa : oa K = some acc) (R4 : Rp B Fc cenv oa ρc s4) (a4 : Ar B A n s4) (k4 : Kp B s s4) (hit : Itr s4.heap it dep ds) (hit0 : s.heap.get? it = none) (hne : dep ≠ some it) (hacc0 : s.heap.get? acc = none)
    (hacc : PlainL s4.heap acc #[]) (hitF : ¬ FW cenv oa it) (hdep : ∀ l, dep = some l → ¬ FW cenv oa l) (hP : ∀ b, Priv cenv b → s.heap.get? b = none)
    (hw : ∀ d ∈ ds, CW B Fc n m ρc target ifs elt d (f d)) (hρ : ∀ (i : Nat) sl, ρc[i]? = some (some sl) → m ≤ i) (hsz : (ds.filterMap f).length ≤ sizeLine)
    (hR : ∀ s', (∃ mm, s'.heap.Ns cenv.locals mm) → Kp B s s' → ContAt B s'.heap acc (.lst (ds.filterMap f)) → R (.ok .next) s') (hq : B.quiet = true) :
    codeAny (model B.prog B.w) A (.compLoop (.ListComp elt [⟨target, iter, ifs, 0⟩] scope pos) 0 (.ref it) (.ref acc) cenv) R s4 := by
  have hbit : B.hB.get? it = none := by
    cases e : B.hB.get? it with
    | none => rfl
    | some o => rw [hbs it o e] at hit0; cases hit0
  refine codeAny_loop rfl (fun k t => ∃ pre ds' oa', ds'.length = k ∧ ds = pre ++ ds' ∧ Rp B Fc cenv oa' ρc t ∧ oa' K = some acc ∧ Ar B A n t ∧ Kp B s t ∧ Itr t.heap it dep ds' ∧ ¬ FW cenv oa' it ∧ (∀ l, dep = some l → ¬ FW cenv oa' l) ∧
    ContAt B t.heap acc (.lst (pre.filterMap f))) (fun k t ht => ?_) ds.length ⟨[], ds, oa, rfl, rfl, R4, hoa, a4, k4, hit, hitF, hdep, ?_⟩
  · obtain ⟨pre, ds', oa', rfl, hds, Rt, hoat, at', kt, hitt, hif, hdf, hca⟩ := ht
    show wpAny _ _ ((compTurn (.ListComp elt [⟨target, iter, ifs, 0⟩] scope pos) 0 (.ref it) (.ref acc) cenv).onRaise (fun x => do noteFrame x cenv; theTreesLotGoes x)) _ _ t
    refine wpAny_noted ?_
    rw [compTurn_list]
    refine wpAny_bind (wpAny_standAt ?_)
    obtain ⟨oi, hoi, hci⟩ := hitt.itCls
    have hai : acc ≠ it := hca.ne hoi hci
    cases ds' with
    | nil =>
      refine wpAny_bind (wpAny_mono (hitt.fin (at'.handled hq) kt hit0 (E := fun _ _ => False)) (fun r t1 hz2 => ?_) fun _ _ x => x.elim)
      obtain ⟨e, kt1, h', e', hx, hg⟩ := hz2
      subst e; subst e'
      rw [List.append_nil] at hds; subst hds
      refine wpAny_pure (hR _ (Rt.ext hoi hci hbit hif hx hg (t := t.toks)).ns kt1 ?_)
      exact hca.of_same (fun o e _ => hx acc o hai e) hg
    | cons d ds' =>
      refine wpAny_bind (wpAny_mono (hitt.next hne kt hit0 (E := fun _ _ => False)) (fun r t1 hz3 => ?_) fun _ _ x => x.elim)
      obtain ⟨v, e, hv, hit1, kt1, h', tk, e', hx⟩ := hz3
      subst e; subst e'
      have hg := growBut hoi (by obtain ⟨_, T, hT, _, h2, _⟩ := hci; rw [hT]; intro q; cases q; exact h2 rfl) hx.extBut
      have R1 := Rt.ext hoi hci hbit hif hx.extBut hg (t := tk)
      have a1 := at'.ext hoi hci hx.extBut (t := tk)
      have hca1 : ContAt B h' acc (.lst (pre.filterMap f)) := hca.of_same (fun o e _ => (hx.2 acc hai).trans e) hg
      refine wpAny_bind (hit1.letGo ?_)
      refine wpAny_bind (wpAny_mono ((hw d (by rw [hds]; simp)).go cenv oa' A _ v _ R1 a1 hv) (fun _ t2 hz4 => ?_) fun _ _ x => x)
      obtain ⟨ρ2, oa2, ⟨hρ2, q2⟩, R2, kp2, o2, hKK⟩ := hz4
      have hoa2 : oa2 K = some acc := (hKK K hK).trans hoat
      have lit : ∃ o, h'.get? it = some o := by obtain ⟨o, ho, _⟩ := hit1.itCls; exact ⟨o, ho⟩
      have nP : ∀ b, (∃ o, s.heap.get? b = some o) → ¬ Priv cenv b := fun b hz5 q => by obtain ⟨o, ho⟩ := hz5; rw [hP b q] at ho; cases ho
      have kt2 : Kp B s t2 := KpW.trans kt1 kp2 fun b q => .inr (hP b q)
      have hif2 := notFW hif o2 lit
      have hdl : ∀ l, dep = some l → ∃ o, h'.get? l = some o := fun l hl => by
        subst hl
        cases hit1 with | list a b c => (obtain ⟨o, ho, _⟩ := b; exact ⟨o, ho⟩)
      have hdf2 : ∀ l, dep = some l → ¬ FW cenv oa2 l := fun l hl => notFW (hdf l hl) o2 (hdl l hl)
      have hit2 := hit1.kp kp2 (fun q => hif (.inl q)) (fun l hl q => hdf l hl (.inl q))
      have hca2 : ContAt B t2.heap acc (.lst (pre.filterMap f)) := hca1.kp kp2 (Rt.opriv K acc hoat).1
      refine wpAny_bind (wpAny_mono (q2.go cenv oa2 A t2 _ R2 (a1.kp kp2)) (fun b t3 hz6 => ?_) fun _ _ x => x)
      obtain ⟨q3, k3⟩ := hz6
      have R3 := R2.kp k3
      have back : ∀ {u : Shared} {ρ' : List (Option Sl)}, Rp B Fc cenv oa2 ρ' u → ρ'.drop m = ρc.drop m → Rp B Fc cenv oa2 ρc u := fun {u ρ'} Ru e => Ru.forget fun i sl hi => by
        have hm := hρ i sl hi
        have : (ρc.drop m)[i - m]? = some (some sl) := by rw [List.getElem?_drop, Nat.add_sub_cancel' hm]; exact hi
        rw [← e, List.getElem?_drop, Nat.add_sub_cancel' hm] at this
        exact this
      have hds2 : ds = (pre ++ [d]) ++ ds' := by rw [hds]; simp
      cases b with
      | false =>
        have hfd : f d = none := by simpa using q3
        refine wpAny_pure ⟨rfl, ds'.length, by simp, pre ++ [d], ds', oa2, rfl, hds2, back R3 hρ2, hoa2, (a1.kp kp2).kp k3, kt2.trans k3, hit2.kp k3 (fun x => x) (fun _ _ x => x), hif2, hdf2, ?_⟩
        rw [List.filterMap_append]
        simpa [hfd] using hca2.kp k3 (fun x => x)
      | true =>
        have q4 : EW B Fc NoX n ρ2 elt fun r => ∃ e, f d = some e ∧ r = .im e := by simpa using q3
        simp only [if_true]
        refine wpAny_bind (wpAny_bind (wpAny_mono (q4.go cenv oa2 A t3 R3 ((a1.kp kp2).kp k3)) (fun x t4 hz7 => ?_) fun _ _ x => x.no.elim))
        obtain ⟨r, ⟨e, hfd, hr⟩, k5, vx⟩ := hz7
        subst hr
        have hca4 := (hca2.kp k3 (fun x => x)).kp k5 (fun x => x)
        obtain ⟨oa', vs, kk, ho, hc, hd, hims⟩ := id hca4
        have hlen : vs.size = (pre.filterMap f).length := by rw [← Array.length_toList]; exact hims.length
        have hle : (pre.filterMap f).length ≤ sizeLine := by
          rw [hds, List.filterMap_append, List.length_append] at hsz; (clear hc hif2 hif hitF hK; omega)
        refine wpAny_bind (list_append_plainL ⟨oa', kk, ho, hc.1, hc.2, hd⟩ (fun h5 hl5 hs5 => ?_) (by rw [hlen]; exact hle))
        obtain ⟨o5, kk5, ho5, hc5, hc6, hd5⟩ := id hl5
        have R5 := (R3.kp k5).upd hoa2 hs5 ⟨o5, ho5⟩ ⟨_, hca4⟩ (t := t4.toks) ρ2 (fun i x k sl h1 h2 => .inl ⟨h2, fun q => by have := Fc.lt h1; (clear hle hlen hc hif2 hif hsz hitF; omega)⟩)
        have k45 : KpW B (fun b => b = acc) t4 { t4 with heap := h5 } := by
          refine ⟨fun b o e nw _ => (hs5.2 b nw).trans e, fun b o e nw => ⟨o.slots, (hs5.2 b nw).trans e⟩, R5.2, fun b o e => ?_, rfl, rfl⟩
          by_cases q : b = acc
          · subst q
            rw [ho] at e; cases e
            exact ⟨o5, ho5, (fun _ vs q => by rw [hd5] at q; cases q), (fun hz8 => by obtain ⟨es, ep, q⟩ := hz8; rw [hd] at q; cases q)⟩
          · exact ⟨o, (hs5.2 b q).trans e, fun x => x, fun x => ⟨rfl, x⟩⟩
        have kt5 : Kp B s { t4 with heap := h5 } := KpW.trans ((kt2.trans k3).trans k5) k45 fun b q => .inr (q ▸ hacc0)
        have hitn : it ≠ acc := hai.symm
        have hdn : ∀ l, dep = some l → ¬ l = acc := fun l hl q => hdf2 l hl (.inr ⟨K, q ▸ hoa2⟩)
        refine wpAny_pure (wpAny_pure ⟨rfl, ds'.length, by simp, pre ++ [d], ds', oa2, rfl, hds2, back R5.1 hρ2, hoa2, (((a1.kp kp2).kp k3).kp k5).same hca4 hs5, kt5,
          ((hit2.kp k3 (fun x => x) (fun _ _ x => x)).kp k5 (fun x => x) (fun _ _ x => x)).kp k45 hitn hdn, hif2, hdf2, ?_⟩)
        refine ⟨o5, _, kk5, ho5, ⟨hc5, hc6⟩, hd5, ?_⟩
        rw [List.filterMap_append]
        have := (hims.append (.cons vx .nil)).grow R5.2
        simpa [hfd] using this
  · obtain ⟨o, k, h1, h2, h2', h3⟩ := hacc
    exact ⟨o, #[], k, h1, ⟨h2, h2'⟩, h3, .nil⟩
end
end Mine
end

section
open PySem PySem.W PyProof.Rows PySem.Calls PyProof
set_option Elab.async false
set_option maxRecDepth 100000
set_option linter.unusedVariables false
namespace Mine
section
variable {B : Bs} {F : Fi} {X : Str → Prop} {n : Nat} {ρ : List (Option Sl)}

theorem compCore {env : Env} {oa : Nat → Option Addr} {A : Around} {s : Shared} {Fc : Fi} {m : Nat} {caps : List Nat} {elt target iter : Expr} {ifs : List Expr} {scope : Scope} {pos p : Pos} {use : Option (Value → Sem Unit)} {Q : Value → Shared → Prop} {QQ : List D → Prop}
    (R : Rp B F env oa ρ s) (a : Ar B A n s) (ok : CompOk F Fc scope m caps)
    (h : EW B F X n ρ iter fun r => ∃ ds, IterS B n r ds ∧ ∃ f : D → Option D, (∀ d ∈ ds, CW B Fc n m (compStart0 m ρ caps) target ifs elt d (f d)) ∧ (ds.filterMap f).length ≤ sizeLine ∧ QQ (ds.filterMap f))
    (hs : ∀ x, foldedSetIterable iter env x = pure x)
    (hQ : ∀ l acc C s', QQ l → Kp B s s' → ContAt B s'.heap acc (.lst l) → s.heap.get? acc = none → s.heap.get? C = none → (∃ mm, s'.heap.Ns C mm) → C ≠ acc →
      compPost (model B.prog B.w) A (EP B X s) use Q (.ref acc) C (.ok .next) s') (hq : B.quiet = true) :
    wpAny (model B.prog B.w) A (comprehension (.ListComp elt [⟨target, iter, ifs, 0⟩] scope pos) scope env p (newList []) false (eval iter env) use) Q (EP B X s) s := by
  obtain ⟨cl, hcl, hc1, hc2⟩ := closureFor_lookup (scope := scope) (env := env) fun x hx hf => by
    obtain ⟨i, k, hi, hk⟩ := ok.free x hx hf
    obtain ⟨c, v, h1, _⟩ := R.cells i x.1 k hi hk
    exact ⟨c, h1⟩
  refine wpAny_comprehension_free rfl hs hcl ok.kind ok.names ?_
  refine h.run R a (Kp.refl _) fun v s1 r hz1 k1 x1 => ?_
  obtain ⟨ds, hi, f, hw, hsz, q⟩ := hz1
  refine wpAny_mono (hi env oa A s s1 v _ (R.kp k1).base (a.kp k1) x1 fun b hb => (R.new hb).1) (fun itv s2 hz2 => ?_) fun _ _ x => x
  obtain ⟨it, dep, e, hit, hn, hne, hdep, k2⟩ := hz2
  subst e
  have k12 := k1.trans k2
  show wpAny _ _ (newObj (.type "list") (.seq ([] : List Value).toArray)) _ _ _
  refine wpAny_newObj_type ?_ (by show (#[] : Array Value).size ≤ sizeLine; exact Nat.zero_le _)
  have k3 : Kp B s2 { s2 with heap := s2.heap.push { cls := .type "list", data := .seq #[] } } := push_kp _
  have k13 := k12.trans k3
  have hacc0 : s.heap.get? s2.heap.objs.size = none := k12.fresh (fresh_size s2)
  have haccL : (s2.heap.push { cls := .type "list", data := .seq #[] }).IsList s2.heap.objs.size #[] := ⟨_, Heap.get?_push_size _ rfl, rfl, 0, rfl⟩
  have hit3 := hit.kp k3 (fun x => x) (fun _ _ x => x)
  refine newEnvComp ?_
  obtain ⟨oi, hoi, hci⟩ := hit.itCls
  obtain ⟨R4, k4⟩ := compRp (K := Fc.vars.length) (s := { s2 with heap := s2.heap.push { cls := .type "list", data := .seq #[] } }) R k13 hacc0 ⟨_, Heap.get?_push_size _ rfl⟩ ok hc1 hc2
  have k14 := k13.trans k4
  have hit4 := hit3.kp k4 (fun x => x) (fun _ _ x => x)
  have hL : s.heap.get? (s2.heap.push { cls := .type "list", data := .seq #[] }).objs.size = none := k13.fresh (fresh_size { s2 with heap := s2.heap.push { cls := .type "list", data := .seq #[] } })
  have hitlt : it < (s2.heap.push { cls := .type "list", data := .seq #[] }).objs.size := Heap.lt_size (Heap.get?_push_of_some _ hoi)
  have hitne : it ≠ s2.heap.objs.size := Nat.ne_of_lt (Heap.lt_size hoi)
  have privF : ∀ b, b < (s2.heap.push { cls := .type "list", data := .seq #[] }).objs.size → b ≠ s2.heap.objs.size → ¬ FW { scope := relabel scope env, locals := (s2.heap.push { cls := .type "list", data := .seq #[] }).objs.size, globals := env.globals, cells := cellsFrom ((s2.heap.push { cls := .type "list", data := .seq #[] }).objs.size + 1) scope.names cl, qual := env.qual, func := none, code := env.code, frame := env.frame, builtins := env.builtins } (fun j => if j = Fc.vars.length then some s2.heap.objs.size else none) b := by
    rintro b hb hb2 (q | ⟨j, q⟩)
    · rcases q with q | q
      · exact absurd hb (by rw [q]; exact Nat.lt_irrefl _)
      · exact absurd hb (Nat.not_lt.mpr (Nat.le_of_lt q.1))
    · dsimp only at q
      split at q
      · cases q; exact hb2 rfl
      · cases q
  have aR4 := (a.kp k13).kp k4
  have main := compLoop (R := compPost (model B.prog B.w) A (EP B X s) use Q (.ref s2.heap.objs.size) (s2.heap.push { cls := .type "list", data := .seq #[] }).objs.size) (elt := elt) (target := target) (iter := iter) (ifs := ifs) (scope := scope) (pos := pos) (hq := hq)
    R.base (Nat.le_refl Fc.vars.length) (if_pos rfl) R4 aR4 k14 hit4 (k1.fresh hn) hne hacc0 ⟨_, 0, pushCells_keeps _ _ _ _ (Heap.get?_push_of_some _ (Heap.get?_push_size _ rfl)), rfl, rfl, rfl⟩
    (privF it hitlt hitne) (fun l hl => by
      obtain ⟨_, o, ho⟩ := hdep l hl
      have : ∃ o, s2.heap.get? l = some o := ⟨o, k2.keep l o ho (fun x => x) (by
        subst hl
        cases hit with | list a b c => obtain ⟨o2, ho2, hc2, _⟩ := b; obtain ⟨o3, h3, _⟩ := k2.live l o ho; rw [ho2] at h3; cases h3; exact .inl (by
          obtain ⟨sl, h5⟩ := k2.data l o ho (fun x => x); rw [ho2] at h5; cases h5; rw [show o.cls = _ from hc2]; decide))⟩
      obtain ⟨o2, ho2⟩ := this
      exact privF l (Heap.lt_size (Heap.get?_push_of_some _ ho2)) (Nat.ne_of_lt (Heap.lt_size ho2)))
    (fun b q => by
      rcases q with q | q
      · rw [q]; exact hL
      · refine k13.fresh ?_
        cases e : (s2.heap.push { cls := .type "list", data := .seq #[] }).get? b with
        | none => rfl
        | some o => exact absurd (Heap.lt_size e) (Nat.not_lt.mpr (Nat.le_of_lt q.1)))
    hw (fun i sl hi => by
      by_cases q : i < m
      · unfold compStart0 at hi
        rw [List.getElem?_append_left (by simpa using q), List.getElem?_replicate] at hi
        split at hi <;> cases hi
      · exact Nat.le_of_not_lt q) hsz
    (fun s' hns ks hca => hQ _ _ _ s' q ks hca hacc0 hL hns (by rw [Heap.size_push]; exact Nat.ne_of_gt (Nat.lt_succ_self _)))
  exact codeAny_compStart_list main (hit4.again main)

theorem EW.comp {Fc : Fi} {m : Nat} {caps : List Nat} {elt target iter : Expr} {ifs : List Expr} {scope : Scope} {pos : Pos} {Q : AV → Prop} (ok : CompOk F Fc scope m caps)
    (h : EW B F X n ρ iter fun r => ∃ ds, IterS B n r ds ∧ ∃ f : D → Option D, (∀ d ∈ ds, CW B Fc n m (compStart0 m ρ caps) target ifs elt d (f d)) ∧ (ds.filterMap f).length ≤ sizeLine ∧ Q (.ct .fr (.lst (ds.filterMap f))))
    (hs : ∀ env x, foldedSetIterable iter env x = pure x := by intros; rfl) (hq : B.quiet = true := by assumption) : EW B F X n ρ (.ListComp elt [⟨target, iter, ifs, 0⟩] scope pos) Q := by
  refine .mk ?_
  intro env oa A s R a
  rw [eval_ListComp]
  refine compCore (QQ := fun l => Q (.ct .fr (.lst l))) R a ok h (hs env) (hq := hq) fun l acc C s' q k hc hacc hC hns hne => ?_
  obtain ⟨mm, hm⟩ := hns
  refine ⟨mm, hm, fun h' hs' => ⟨_, q, ?_, acc, rfl, ?_, hacc⟩⟩
  · exact k.ext (t := s'.toks) hC hs'.extBut
  · obtain ⟨oC, es, ep, hoC, hdC, _⟩ := hm
    refine hc.of_same (fun o e _ => (hs'.2 acc hne.symm).trans e) fun b o vs n' e c d => (hs'.2 b fun q => ?_).trans e
    subst q; rw [hoC] at e; cases e; rw [hdC] at d; cases d

theorem SW.assignComp {Fc : Fi} {m : Nat} {caps : List Nat} {x : Str} {pos' : Pos} {elt target iter : Expr} {ifs : List Expr} {scope : Scope} {pos cpos : Pos} {Q : Fl → List (Option Sl) → Prop} (i : Nat) (hx : F.vars[i]? = some (x, .loc)) (hi : i < F.own) (ok : CompOk F Fc scope m caps)
    (h : EW B F X n ρ iter fun r => ∃ ds, IterS B n r ds ∧ ∃ f : D → Option D, (∀ d ∈ ds, CW B Fc n m (compStart0 m ρ caps) target ifs elt d (f d)) ∧ (ds.filterMap f).length ≤ sizeLine ∧ Q .next (ρ.set i (some (.own (.lst (ds.filterMap f))))))
    (hl : pos'.line = cpos.line) (hn : (scope.names.any fun (y, k) => y == x && (k == .local || k == .cell)) = false)
    (hs : ∀ env x, foldedSetIterable iter env x = pure x := by intros; rfl) (hq : B.quiet = true := by assumption) : SW B F X n ρ (.Assign [.Name x pos'] (.ListComp elt [⟨target, iter, ifs, 0⟩] scope cpos) pos) Q := by
  refine .mk ?_
  intro env oa A s hd R a
  have hk : env.scope.kind = .function := by rw [R.scope]; exact F.fn
  have hkx : env.kindOf x = some .local := by unfold Env.kindOf; rw [R.scope]; exact (F.at hx).1
  have hsw : swapsWith (.ListComp elt [⟨target, iter, ifs, 0⟩] scope cpos) (some (.Name x pos')) pos.line env = pure true := by
    have e : swapsWith (.ListComp elt [⟨target, iter, ifs, 0⟩] scope cpos) (some (.Name x pos')) pos.line env = pure (env.blockKind == .function && env.kindOf x == some .local && pos'.line == cpos.line
      && !(scope.names.any fun (n, k) => n == x && (k == .local || k == .cell))) := rfl
    rw [e, hn, hkx, hl]
    simp [Env.blockKind, hk, ScopeKind.isAnnotationScope]
  rw [exec_Assign_Name_used _ _ _ _ hsw]
  refine wpAny_bind (wpAny_standAt (wpAny_bind ?_))
  show wpAny _ A (do let _ ← comprehension (.ListComp elt [⟨target, iter, ifs, 0⟩] scope cpos) scope env _ (newList []) false (eval iter env) (some (PySem.assign (.Name x pos') env))) _ _ s
  refine wpAny_bind (wpAny_mono (compCore (QQ := fun l => Q .next (ρ.set i (some (.own (.lst l))))) (Q := fun _ s' => Po B F env oa s Q .next s') R a ok h (hs env) (hq := hq) fun l acc C s' q k hc hacc hC hns hne => ?_) (fun _ s' x => wpAny_pure (wpAny_pure x)) fun _ _ x => x.toW)
  obtain ⟨mm, hm⟩ := hns
  refine wpAny_assign_Name (wpAny_mono (storeVar R k (r := .ct .fr (.lst l)) ⟨acc, rfl, hc, hacc⟩ hx rfl (by decide) hi) (fun _ s2 hz3 => ?_) fun _ _ x => x)
  obtain ⟨R2, k2, o2, fz⟩ := hz3
  have hCn : ¬ Priv env C := fun q => (R.new hC).1 (.inl q)
  obtain ⟨oC, es, ep, hoC, hdC, hr⟩ := hm
  obtain ⟨sl, hoC2⟩ := k2.data C oC hoC hCn
  refine ⟨mm, ⟨_, es, ep, hoC2, hdC, hr⟩, fun h' hs' => ?_⟩
  have hg : Grow s2.heap h' := fun b o vs n' e c d => (hs'.2 b fun q => by subst q; rw [hoC2] at e; cases e; rw [show oC.data = _ from hdC] at d; cases d).trans e
  have hf2 : ¬ FW env (oaSet oa i (.ref acc) (.ct .fr (.lst l))) C := by
    rintro (q | ⟨j, q⟩)
    · exact hCn q
    · rcases o2 j C q with ⟨j', q'⟩ | _
      · exact (R.new hC).1 (.inr ⟨j', q'⟩)
      · by_cases e : j = i
        · subst e; simp [oaSet] at q; exact hne q.symm
        · simp [oaSet, e] at q; exact (R.new hC).1 (.inr ⟨j, q⟩)
  have hbC : B.hB.get? C = none := (R.new hC).2
  have hL : env.locals ≠ C := fun q => hCn (.inl q.symm)
  have hCc : ∀ y c, (y, c) ∈ env.cells → c ≠ C := fun y c hm q => by
    obtain ⟨v, oc, h1, h2⟩ := R2.cellsLive y c hm
    subst q; rw [hoC2] at h1; cases h1; rw [show oC.data = _ from hdC] at h2; cases h2
  have cell : ∀ {y c v}, env.cells.lookup y = some c → s2.heap.IsCell c v → h'.IsCell c v := fun {y c v} hl hz4 => by obtain ⟨oc, h1, h2⟩ := hz4; exact ⟨oc, (hs'.2 c (hCc y c (mem_of_lookup hl))).trans h1, h2⟩
  have var : ∀ {y k v}, VarAt env s2.heap y k v → VarAt env h' y k v := fun {y k v} hv => by
    cases k with
    | loc => (obtain ⟨m, h1, h2⟩ := hv; exact ⟨m, h1.sameBut hs' hL, h2⟩)
    | cel => (obtain ⟨c, h1, h2⟩ := hv; exact ⟨c, h1, cell h1 h2⟩)
    | fre => (obtain ⟨c, h1, h2⟩ := hv; exact ⟨c, h1, cell h1 h2⟩)
  have cont : ∀ {b c}, b ≠ C → ContAt B s2.heap b c → ContAt B h' b c := fun {b c} ne y => y.of_same (fun ob e _ => (hs'.2 b ne).trans e) hg
  have R3 : Rp B F env (oaSet oa i (.ref acc) (.ct .fr (.lst l))) (ρ.set i (some (.own (.lst l)))) { s2 with heap := h' } := by
    refine ⟨fun b ob e => (hs'.2 b (fun q => by subst q; rw [hbC] at e; cases e)).trans (R2.base b ob e), R2.scope, R2.globals, R2.builtins, ?_, ?_, R2.apart, R2.locCell, ?_, R2.privNew, ?_, R2.oinj, ?_⟩
    · (obtain ⟨m, h⟩ := R2.ns; exact ⟨m, h.sameBut hs' hL⟩)
    · intro j y k h1 h2
      obtain ⟨c, v, h3, h4, h5⟩ := R2.cells j y k h1 h2
      exact ⟨c, v, h3, cell h3 h4, h5⟩
    · intro y c hm
      obtain ⟨v, ob, h1, h2⟩ := R2.cellsLive y c hm
      exact ⟨v, ob, (hs'.2 c (hCc y c hm)).trans h1, h2⟩
    · intro j y k sl h1 h2
      have z := R2.slots j y k sl h1 h2
      cases sl with
      | im d => (obtain ⟨v, h3, h4⟩ := z; exact ⟨v, var h3, h4.grow hg⟩)
      | fz c =>
        obtain ⟨b, h3, h4, h5⟩ := z
        have hji : j ≠ i := fun q => by
          subst q
          by_cases hlt : j < ρ.length
          · rw [List.getElem?_set_self hlt] at h2; cases h2
          · rw [List.set_eq_of_length_le (Nat.le_of_not_lt hlt), List.getElem?_eq_none (Nat.le_of_not_lt hlt)] at h2; cases h2
        rw [List.getElem?_set_ne (Ne.symm hji)] at h2
        obtain ⟨o, ho⟩ := fz j y k c b hji h1 h2 h3
        exact ⟨b, var h3, cont (fun q => by subst q; rw [hC] at ho; cases ho) h4, h5⟩
      | own c => (obtain ⟨b, h3, h4, h5, h6⟩ := z; exact ⟨b, var h3, cont (fun q => hf2 (.inr ⟨j, q ▸ h5⟩)) h4, h5, h6⟩)
    · intro j b h
      obtain ⟨h1, h2, ob, h3⟩ := R2.opriv j b h
      exact ⟨h1, h2, ob, (hs'.2 b (fun q => hf2 (.inr ⟨j, q ▸ h⟩))).trans h3⟩
  refine ⟨.next, _, _, q, trivial, R3, ?_, o2⟩
  have kk : KpW B (FW env oa) s s2 := (Kp.toW k).trans (k2.mono fun _ x => .inl x) (fun _ x => .inl x)
  exact kk.ext (t := s2.toks) hC hs'.extBut
end
end Mine
end

section
open PySem PySem.W PyProof.Rows PySem.Calls PyProof
set_option Elab.async false
set_option maxRecDepth 100000
set_option linter.unusedVariables false
namespace Mine
section
variable {B : Bs} {F : Fi} {X : Str → Prop} {n : Nat} {ρ : List (Option Sl)}

noncomputable def Cont.like : Cont → Cont → Prop
  | .lst _, .lst _ => True
  | .dct _, .dct _ => True
  | _, _ => False
theorem ownTurn {env oa} {s : Shared} {a : Addr} {i : Nat} {c c' : Cont} {h' : Heap} {t : Nat} {m : Option Addr} (R : Rp B F env oa ρ s) (hs : ρ[i]? = some (some (.own c m))) (ha : oa i = some a) (hc : ContAt B s.heap a c)
    (hb : Heap.SameBut a s.heap h') (hc' : ContAt B h' a c') (hk : c.like c') :
    Rp B F env oa (ρ.set i (some (.own c' m))) { s with heap := h', toks := t } ∧ KpW B (FW env oa) s { s with heap := h', toks := t } := by
  obtain ⟨o', ho'⟩ := hc'.exists
  have hlt : i < ρ.length := (List.getElem?_eq_some_iff.mp hs).1
  have z := R.upd ha hb ⟨o', ho'⟩ ⟨_, hc⟩ (t := t) (ρ.set i (some (.own c' m))) (fun j x k sl h1 h2 => by
    by_cases e : j = i
    · subst e
      rw [List.getElem?_set_self hlt] at h2; cases h2
      exact .inr ⟨rfl, c, c', m, rfl, hs, hc'⟩
    · rw [List.getElem?_set_ne (Ne.symm e)] at h2
      exact .inl ⟨h2, e⟩)
  refine ⟨z.1, fun b o e nw _ => (hb.2 b fun q => nw (.inr ⟨i, q ▸ ha⟩)).trans e, fun b o e nw => ⟨o.slots, (hb.2 b fun q => nw (.inr ⟨i, q ▸ ha⟩)).trans e⟩, z.2, fun b o e => ?_, rfl, rfl⟩
  by_cases q : b = a
  · subst q
    refine ⟨o', ho', ?_, ?_⟩
    · intro _ vs q
      cases c' with
      | lst l => obtain ⟨o2, _, _, h1, _, h3, _⟩ := hc'; rw [ho'] at h1; cases h1; rw [q] at h3; cases h3
      | dct l => obtain ⟨_, _, ⟨o2, _, _, h1, _, h3, _⟩, _⟩ := hc'; rw [ho'] at h1; cases h1; rw [q] at h3; cases h3
      | rng x y => cases c <;> exact hk.elim
      | exc x => cases c <;> exact hk.elim
    · rintro ⟨es, ep, q⟩
      cases c with
      | lst l => obtain ⟨o2, _, _, h1, _, h3, _⟩ := hc; rw [e] at h1; cases h1; rw [q] at h3; cases h3
      | rng x y => exact hk.elim
      | exc x => exact hk.elim
      | dct l =>
        cases c' with
        | dct l' =>
          obtain ⟨_, _, ⟨o2, es2, ep2, h1, h2, h3, _⟩, _⟩ := hc'; rw [ho'] at h1; cases h1
          obtain ⟨_, _, ⟨o3, _, _, h4, h5, _⟩, _⟩ := hc; rw [e] at h4; cases h4
          exact ⟨h2.1.trans h5.1.symm, es2, ep2, h3⟩
        | _ => exact hk.elim
  · exact ⟨o, (hb.2 b q).trans e, fun x => x, fun x => ⟨rfl, x⟩⟩

theorem SW.append {x : Str} {p apos pos spos : Pos} {e : Expr} {Q : Fl → List (Option Sl) → Prop} {l : List D} {mm : Option Addr} (i : Nat) {k : Kd} (hx : F.vars[i]? = some (x, k)) (hs : ρ[i]? = some (some (.own (.lst l) mm)))
    (h : EW B F X n ρ e fun r => ∃ d, r = .im d ∧ l.length ≤ sizeLine ∧ Q .next (ρ.set i (some (.own (.lst (l ++ [d])) mm))))
    (hline : (apos.endLine == pos.line) = true := by rfl) (htr : ∀ env, backTo pos (starEach [e] env) = [(false, eval e env)] := by intro _; rfl) :
    SW B F X n ρ (.Expr (.Call (.Attribute (.Name x p) "append" apos) [e] [] pos) spos) Q := by
  refine .mk ?_
  intro env oa A s hd R a
  refine wpAny_Expr_any ?_ (by unfold interactive; rw [R.scope, F.fn]; rfl) rfl
  refine wpAny_Call_append rfl (by rw [htr]; rfl) hline (htr env) ?_
  obtain ⟨b, h1, h2, h3, _⟩ := R.slots i x k _ hx hs
  refine loadVar R hx h1 ?_
  obtain ⟨o, vs, m, ho, hc, hdt, hi⟩ := id h2
  refine ⟨b, vs, rfl, ⟨o, m, ho, hc.1, hc.2, hdt⟩, ?_⟩
  refine wpAny_mono (h.go env oa A s R a) (fun v s1 hz1 => ?_) fun _ _ x => x.toW
  obtain ⟨r, ⟨d, hr, hl, q⟩, k1, hv⟩ := hz1
  subst hr
  have R1 := R.kp k1
  have c1 := h2.kp k1 (fun x => x)
  obtain ⟨o, vs, m, ho, hc, hdt, hi⟩ := id c1
  have hlen : vs.size = l.length := by rw [← Array.length_toList]; exact hi.length
  refine list_append_plainL ⟨o, m, ho, hc.1, hc.2, hdt⟩ (fun h' hz2 hs' => ?_) (by rw [hlen]; exact hl)
  obtain ⟨o', m', g1, g2, g3, g4⟩ := hz2
  have hg : Grow s1.heap h' := (R1.upd h3 hs' ⟨o', g1⟩ ⟨_, c1⟩ (t := 0) [] (fun _ _ _ _ _ h => by simp at h)).2
  have c2 : ContAt B h' b (.lst (l ++ [d])) := ⟨o', _, m', g1, ⟨g2, g3⟩, g4, by simpa using (hi.append (.cons hv .nil)).grow hg⟩
  obtain ⟨R2, k2⟩ := ownTurn R1 hs h3 c1 hs' c2 trivial (t := s1.toks)
  exact ⟨.next, _, oa, q, trivial, R2, (Kp.toW k1).trans k2 fun _ x => .inl x, OwnFrom.refl _ _⟩
end
end Mine
end

section
open PySem PySem.W PyProof.Rows PySem.Calls PyProof
set_option Elab.async false
set_option maxRecDepth 100000
set_option linter.unusedVariables false
namespace Mine
noncomputable def dAt (l : List (Str × D)) (k : Str) : Option D := (l.find? fun kv => kv.1 = k).map (·.2)
noncomputable def dSto (l : List (Str × D)) (k : Str) (d : D) : List (Str × D) :=
  if l.any (fun kv => kv.1 = k) then l.map (fun kv => if kv.1 = k then (kv.1, d) else kv) else l ++ [(k, d)]
noncomputable def dOut (l : List (Str × D)) (k : Str) : List (Str × D) := l.filter fun kv => decide (kv.1 ≠ k)
theorem KVs.length {h : Heap} : ∀ {kvs l}, KVs h kvs l → kvs.length = l.length
  | _, _, .nil => rfl
  | _, _, .cons _ r => by simp [r.length]
theorem KVs.any {h : Heap} {k : Str} : ∀ {kvs l}, KVs h kvs l → kvs.any (fun kv => kv.1 = k) = l.any (fun kv => kv.1 = k)
  | _, _, .nil => rfl
  | _, _, .cons _ r => by simp only [List.any_cons]; rw [r.any]
theorem KVs.app {h : Heap} {k : Str} {v d} (hv : Im h v d) : ∀ {kvs l}, KVs h kvs l → KVs h (kvs ++ [(k, v)]) (l ++ [(k, d)])
  | _, _, .nil => .cons hv .nil
  | _, _, .cons a r => .cons a (r.app hv)
theorem KVs.put {h : Heap} {k : Str} {v d} (hv : Im h v d) : ∀ {kvs l}, KVs h kvs l → KVs h (kvs.map fun kv => if kv.1 = k then (kv.1, v) else kv) (l.map fun kv => if kv.1 = k then (kv.1, d) else kv)
  | _, _, .nil => .nil
  | _, _, .cons (k := k') a r => by
    simp only [List.map_cons]
    by_cases e : k' = k
    · simp only [e, if_true]; exact .cons hv (r.put hv)
    · simp only [e, if_false]; exact .cons a (r.put hv)
theorem KVs.sto {h : Heap} {k : Str} {v d kvs l} (x : KVs h kvs l) (hv : Im h v d) : KVs h (stored kvs k v) (dSto l k d) := by
  unfold stored dSto
  rw [x.any]
  split
  · exact x.put hv
  · exact x.app hv
theorem KVs.at {h : Heap} {k : Str} : ∀ {kvs l}, KVs h kvs l → (dAt l k = none → valueAt kvs k = none) ∧ ∀ d, dAt l k = some d → ∃ v, valueAt kvs k = some v ∧ Im h v d
  | _, _, .nil => ⟨fun _ => rfl, fun d e => by simp [dAt] at e⟩
  | _, _, .cons (k := k') a r => by
    have ih := r.at (k := k)
    unfold dAt valueAt at *
    by_cases e : k' = k
    · simp only [List.find?_cons, e, decide_true, Option.map_some]
      exact ⟨(fun q => by cases q), (fun d q => by cases q; exact ⟨_, rfl, a⟩)⟩
    · simp only [List.find?_cons, e, decide_false]
      exact ih
theorem KVs.some {h : Heap} {k : Str} {kvs l} (x : KVs h kvs l) : (valueAt kvs k).isSome = (dAt l k).isSome := by
  cases e : dAt l k with
  | none => rw [x.at.1 e]; rfl
  | some d => obtain ⟨v, h1, _⟩ := x.at.2 d e; rw [h1]; rfl
theorem KVs.out {h : Heap} {k : Str} : ∀ {kvs l}, KVs h kvs l → KVs h (without kvs k) (dOut l k)
  | _, _, .nil => .nil
  | _, _, .cons (k := k') a r => by
    have ih := r.out (k := k)
    unfold without dOut at *
    simp only [List.filter_cons]
    by_cases e : k' = k
    · simp only [e, ne_eq, not_true_eq_false, decide_false, Bool.false_eq_true, if_false]; exact ih
    · simp only [ne_eq, e, not_false_eq_true, decide_true, if_true]; exact .cons a ih
section
variable {B : Bs} {F : Fi} {X : Str → Prop} {n : Nat} {ρ : List (Option Sl)}
theorem VR.dct {env oa} {s s' : Shared} {v : Value} {m : Md} {l : List (Str × D)} (x : VR B env oa s s' v (.ct m (.dct l))) : ∃ a kvs, v = .ref a ∧ (a == sysModules) = false ∧ s'.heap.DictOf (strKind B.prog B.w) a kvs ∧ KVs s'.heap kvs l := by
  obtain ⟨a, rfl, h1, kvs, h2, h3⟩ := x.cont
  exact ⟨a, kvs, rfl, h1, h2, h3⟩
theorem EW.dict0 {pos} {Q : AV → Prop} (h : Q (.ct .fr (.dct []))) : EW B F X n ρ (.Dict [] [] pos) Q := by
  refine .mk ?_
  intro env oa A s R a
  refine wpAny_Dict_empty ⟨_, h, push_kp _, _, rfl, ⟨?_, [], Heap.DictOf.new _, .nil⟩, fresh_size _⟩
  cases q : (s.heap.objs.size == sysModules) with
  | false => rfl
  | true =>
    exfalso
    have e : s.heap.objs.size = sysModules := by simpa using q
    obtain ⟨o, es, ep, h1, _⟩ := B.g
    have := Heap.lt_size (R.base _ o h1)
    rw [e] at this
    exact absurd this (by decide)
theorem SubS.dct {m : Md} {l : List (Str × D)} {k : Str} {d : D} (hd : dAt l k = some d) : SubS B n (.ct m (.dct l)) (.im (.str k)) (.im d) := fun env oa A s0 s vx vi value slice E b a x i hs => by
  obtain ⟨a, kvs, rfl, h0, h1, h2⟩ := x.dct
  obtain ⟨t, rfl⟩ := i.str
  obtain ⟨v, h3, h4⟩ := h2.at.2 d hd
  exact tail_any h1.typeIs slot_dict_getitem.lookup (wpAny_getItem_of (strKind_is _ _ _ _) h1.mapOf h3 ⟨Kp.toks, h4⟩) hs
theorem CmpS.inD {m : Md} {l : List (Str × D)} {k : Str} : CmpS B n .In (.im (.str k)) (.ct m (.dct l)) (dAt l k).isSome := fun env oa A s0 s vx vy E b a x y => by
  obtain ⟨a, kvs, rfl, h0, h1, h2⟩ := y.dct
  obtain ⟨t, rfl⟩ := x.str
  exact wpAny_in_of (strKind_is _ _ _ _) h0 h1.mapOf ⟨by rw [h2.some], Kp.toks⟩
theorem CmpS.notInD {m : Md} {l : List (Str × D)} {k : Str} : CmpS B n .NotIn (.im (.str k)) (.ct m (.dct l)) (!(dAt l k).isSome) := fun env oa A s0 s vx vy E b a x y => by
  obtain ⟨a, kvs, rfl, h0, h1, h2⟩ := y.dct
  obtain ⟨t, rfl⟩ := x.str
  exact wpAny_notIn_of (strKind_is _ _ _ _) h0 h1.mapOf ⟨by rw [h2.some], Kp.toks⟩
theorem EW.get2 {o e f : Expr} {apos pos : Pos} {Q : AV → Prop}
    (h : EW B F X n ρ o fun x => ∃ m l, x = .ct m (.dct l) ∧ EW B F X n ρ e fun y => ∃ k, y = .im (.str k) ∧ EW B F X n ρ f fun z => ∃ d, z = .im d ∧ Q (.im ((dAt l k).getD d)))
    (hline : (apos.endLine == pos.line) = true := by rfl) (hb : ∀ env, attributeBase o "get" env (eval o env) = eval o env := by intro _; rfl)
    (htr : ∀ env, backTo pos (starEach [e, f] env) = [(false, eval e env), (false, eval f env)] := by intro _; rfl) :
    EW B F X n ρ (.Call (.Attribute o "get" apos) [e, f] [] pos) Q := by
  refine .mk ?_
  intro env oa A s R a
  refine wpAny_Call_method2_late (hb env) hline (htr env) (h.run R a (Kp.refl _) fun v0 s0 r hz1 k0 x0 => ?_)
  obtain ⟨m, l, hr, he⟩ := hz1
  subst hr
  obtain ⟨d, kvs, rfl, h0, h1, h2⟩ := x0.dct
  refine ⟨"dict", "dict.get", PySem.F.plainAttrs_dict, PySem.F.slot_dict_get, PySem.F.type_dict_get, h1.typeIs, h1.mapOf.noDict, wpAny_dict_get2 (knd := strKind B.prog B.w) h0 ?_⟩
  refine he.run (R.kp k0) (a.kp k0) k0 fun v1 s1 r1 hz2 k1 x1 => ?_
  obtain ⟨k, hr1, hf⟩ := hz2
  subst hr1
  refine hf.run ((R.kp k0).kp k1) ((a.kp k0).kp k1) (k0.trans k1) fun v2 s2 r2 hz3 k2 x2 => ?_
  obtain ⟨dd, hr2, q⟩ := hz3
  subst hr2
  obtain ⟨t, rfl⟩ := x1.str
  obtain ⟨d', kvs', e', h0', h1', h2'⟩ := ((x0.kp k1).kp k2).dct
  cases e'
  refine ⟨k, _, strKind_is _ _ _ _, h1'.mapOf, _, q, ((k0.trans k1).trans k2).trans Kp.toks, ?_⟩
  cases e : dAt l k with
  | none => rw [h2'.at.1 e]; exact x2
  | some z => obtain ⟨v, e1, e2⟩ := h2'.at.2 z e; rw [e1]; exact e2
theorem SW.dset {x : Str} {p pos' pos : Pos} {ke e : Expr} {Q : Fl → List (Option Sl) → Prop} {l : List (Str × D)} {mm : Option Addr} (i : Nat) {kd : Kd} (hx : F.vars[i]? = some (x, kd)) (hs : ρ[i]? = some (some (.own (.dct l) mm)))
    (h : EW B F X n ρ e fun r => ∃ d, r = .im d ∧ EW B F X n ρ ke fun r => ∃ k, r = .im (.str k) ∧ l.length ≤ sizeLine ∧ Q .next (ρ.set i (some (.own (.dct (dSto l k d)) mm))))
    (hsw : ∀ env, swapsWith e (some (.Subscript (.Name x p) ke pos')) pos.line env = pure false := by intro _; rfl) :
    SW B F X n ρ (.Assign [.Subscript (.Name x p) ke pos'] e pos) Q := by
  refine .mk ?_
  intro env oa A s hd R a
  refine wpAny_Assign_Subscript (hs := hsw env) ?_
  refine wpAny_mono (h.go env oa A s R a) (fun v s1 hz4 => ?_) fun _ _ x => x.toW
  obtain ⟨r, ⟨d, hr, hk⟩, k1, hv⟩ := hz4
  subst hr
  have R1 := R.kp k1
  obtain ⟨b, h1, h2, h3, _⟩ := R1.slots i x kd _ hx hs
  refine loadVar R1 hx h1 ?_
  refine wpAny_mono (hk.go env oa A s1 R1 (a.kp k1)) (fun kv s2 hz5 => ?_) fun _ _ x => (x.back k1).toW
  obtain ⟨r, ⟨k, hr, hl, q⟩, k2, hkv⟩ := hz5
  subst hr
  obtain ⟨t, rfl⟩ := VR.str hkv
  have c2 := h2.kp k2 (fun x => x)
  obtain ⟨g0, kvs, g1, g2⟩ := id c2
  have R2 := R1.kp k2
  refine wpAny_setItem_pairs (strKind_is _ _ _ _) g1 (fun h' g3 hs' => ?_) (by rw [g2.length]; exact hl)
  obtain ⟨o', es', ep', g4, _⟩ := id g3
  have hg : Grow s2.heap h' := (R2.upd h3 hs' ⟨o', g4⟩ ⟨_, c2⟩ (t := 0) [] (fun _ _ _ _ _ h => by simp at h)).2
  have c3 : ContAt B h' b (.dct (dSto l k d)) := ⟨g0, _, g3, (g2.grow hg).sto ((Im.grow k2.tups hv).grow hg)⟩
  obtain ⟨R3, k3⟩ := ownTurn R2 hs h3 c2 hs' c3 trivial (t := s2.toks + 1)
  exact ⟨.next, _, oa, q, trivial, R3, (Kp.toW (k1.trans k2)).trans k3 fun _ x => .inl x, OwnFrom.refl _ _⟩
end
end Mine
end

section
open PySem PySem.W PyProof.Rows PySem.Calls PyProof PySem.SeqAt
set_option Elab.async false
set_option maxRecDepth 100000
set_option linter.unusedVariables false
namespace Mine
section
variable {B : Bs} {F : Fi} {X : Str → Prop} {n : Nat} {ρ : List (Option Sl)}

theorem BuiS.listL {m : Md} {l : List D} (h : l.length ≤ sizeLine) : BuiS B n (.type "list") [.ct m (.lst l)] (.ct .fr (.lst l)) := .one fun env oa A s0 s v E b a x => by
  obtain ⟨a, rfl, o, vs, k, h1, ⟨h2, h2'⟩, h3, h4⟩ := x.cont
  have e : vs.size = l.length := by rw [← Array.length_toList]; exact h4.length
  refine call_list_seq a (.inl rfl) h1 h2 h3 (fun h' c' hk hn => ?_) (by rw [e]; exact h)
  have k : Kp B s { s with heap := h' } := Kp.of (t := s.toks) hk
  exact ⟨k, _, rfl, ⟨_, vs, c', hn, ⟨rfl, rfl⟩, rfl, h4.grow k.tups⟩, fresh_size s⟩
theorem BuiS.listT {l : List D} (h : l.length ≤ sizeLine) : BuiS B n (.type "list") [.im (.tup l)] (.ct .fr (.lst l)) := .one fun env oa A s0 s v E b a x => by
  obtain ⟨a, o, vs, k, rfl, h1, h2, h3, h4⟩ := x.tup
  have e : vs.size = l.length := by rw [← Array.length_toList]; exact h4.length
  refine call_list_seq a (.inr rfl) h1 h2 h3 (fun h' c' hk hn => ?_) (by rw [e]; exact h)
  have k : Kp B s { s with heap := h' } := Kp.of (t := s.toks) hk
  exact ⟨k, _, rfl, ⟨_, vs, c', hn, ⟨rfl, rfl⟩, rfl, h4.grow k.tups⟩, fresh_size s⟩
theorem BuiS.tupleL {m : Md} {l : List D} (h : l.length ≤ sizeLine) : BuiS B n (.type "tuple") [.ct m (.lst l)] (.im (.tup l)) := .one fun env oa A s0 s v E b a x => by
  obtain ⟨a, vs, rfl, h1, h4⟩ := x.lst
  have e : vs.size = l.length := by rw [← Array.length_toList]; exact h4.length
  refine call_tuple_list h1 (fun h' hk => ?_) (by rw [e]; exact h)
  have k : Kp B s { s with heap := h'.push { cls := .type "tuple", data := .seq vs } } := Kp.of (t := s.toks) fun b o q => Heap.get?_push_of_some _ (hk b o q)
  exact ⟨k, Im.tup (Heap.get?_push_size _ rfl) rfl rfl (h4.grow k.tups)⟩
theorem BuiS.tupleT {l : List D} : BuiS B n (.type "tuple") [.im (.tup l)] (.im (.tup l)) := .one fun env oa A s0 s v E b a x => by
  obtain ⟨a, o, vs, k, rfl, h1, h2, h3, h4⟩ := x.tup
  exact call_tuple_same (items := vs) ⟨o, h1, h2, k, h3⟩ ⟨Kp.refl _, Im.tup h1 h2 h3 h4⟩
theorem Ims.ofKeys {h : Heap} {P : Nat → Value → Prop} : ∀ {ks : List Str} {vs : List Value} {i : Nat}, vs.length = ks.length → (∀ (j : Nat) (v : Value), vs[j]? = some v → ∃ k, ks[j]? = some k ∧ ∃ t, v = Value.str k t) → Ims h vs (ks.map D.str)
  := by
  intro ks
  induction ks with
  | nil => intro vs i hl hv; cases vs with | nil => exact .nil | cons _ _ => cases hl
  | cons k ks ih =>
    intro vs i hl hv
    cases vs with
    | nil => cases hl
    | cons v vs =>
      obtain ⟨k', e, t, e'⟩ := hv 0 v rfl
      simp at e; subst e; subst e'
      exact .cons (.str _ _) (ih (i := i) (by simpa using hl) fun j v q => by simpa using hv (j + 1) v (by simpa using q))
theorem KVs.keyAt {h : Heap} : ∀ {kvs l}, KVs h kvs l → ∀ {i : Nat} {k : Str} {v : Value}, kvs[i]? = Option.some (k, v) → ∃ d, l[i]? = Option.some (k, d)
  := by
  intro kvs l h
  induction h with
  | nil => intro i k v e; simp at e
  | cons a r ih =>
    intro i k v e
    cases i with
    | zero => simp at e; obtain ⟨rfl, rfl⟩ := e; exact ⟨_, rfl⟩
    | succ i => simpa using ih (by simpa using e)
theorem BuiS.listD {m : Md} {l : List (Str × D)} (h : l.length ≤ sizeLine) (hq : B.quiet = true := by assumption) : BuiS B n (.type "list") [.ct m (.dct l)] (.ct .fr (.lst (l.map fun kv => .str kv.1))) := .one fun env oa A s0 s v E b a x => by
  obtain ⟨d, kvs, rfl, h0, h1, h2⟩ := x.dct
  obtain ⟨ep, h3⟩ := h1.dictAt
  have hl : kvs.length = l.length := h2.length
  refine kdl_call (kdl_dict (knd := strKind B.prog B.w) h0) (a.handled hq) h3 (by omega) fun h' tk acc c hk hn hit => ?_
  have k : Kp B s { s with heap := h', toks := tk } := Kp.of hk
  refine ⟨k, _, rfl, ⟨_, acc, c, hn, ⟨rfl, rfl⟩, rfl, ?_⟩, fresh_size s⟩
  have := Ims.ofKeys (h := h') (P := fun _ _ => True) (ks := l.map (·.1)) (vs := acc.toList) (i := 0) (by simp [hit.1]; (clear h; omega)) fun j v q => by
    obtain ⟨k, x, e1, e2⟩ := hit.2 j v (by simpa using q)
    obtain ⟨dd, e3⟩ := h2.keyAt e1
    refine ⟨k, by simp [e3], ?_⟩
    have e4 : Value.isStrOf k v = true := e2
    unfold Value.isStrOf at e4
    split at e4
    · rename_i s t; exact ⟨t, by simp at e4; rw [e4]⟩
    · cases e4
  rw [List.map_map] at this
  exact this

theorem Ims.ints {h : Heap} : ∀ {vs : List Value} {is : List Int}, Ims h vs (is.map .int) → ∃ xs : List (Int × Tok), vs = xs.map (fun p => .int p.1 p.2) ∧ xs.map (·.1) = is
  | _, [], q => by cases q; exact ⟨[], rfl, rfl⟩
  | _, i :: is, q => by
    cases q with
    | cons a r => cases a with
      | int i t => obtain ⟨xs, e1, e2⟩ := Ims.ints r; exact ⟨(i, t) :: xs, by rw [e1]; rfl, by rw [← e2]; rfl⟩
theorem BuiS.sum {m : Md} {is : List Int} (hq : B.quiet = true := by assumption) : BuiS B n (.builtin "sum") [.ct m (.lst (is.map .int))] (.im (.int is.sum)) := .one fun env oa A s0 s v E b a x => by
  obtain ⟨a', vs, rfl, h1, h2⟩ := x.lst
  obtain ⟨xs, e1, e2⟩ := h2.ints
  have ev : vs = intItems xs.toArray := by
    apply Array.ext'; rw [e1]; simp [intItems]
  rw [ev] at h1
  refine PySem.sum_intListG (a.handled hq) h1 fun h' tk t' hk => ?_
  refine ⟨Kp.of hk, ?_⟩
  rw [preSum_eq]
  have : (List.take xs.toArray.size (xs.toArray.toList.map (·.1))) = is := by rw [← e2]; simp [List.take_of_length_le]
  rw [this]
  exact Im.int _ _

noncomputable def sle (a b : Str) : Bool := !Spec.ltCps b.cps.toList a.cps.toList
noncomputable def srt (l : List Str) : List Str := l.mergeSort sle
theorem sle_total (a b : Str) : (sle a b || sle b a) = true := by
  unfold sle; rw [ltCps_eq, ltCps_eq]
  rcases Nat.lt_or_ge 0 1 with _ | _
  · by_cases h : b.cps.toList < a.cps.toList
    · have : ¬ a.cps.toList < b.cps.toList := List.lt_asymm h
      simp [h, this]
    · simp [h]
  · omega
theorem sle_trans (a b c : Str) (h : sle a b = true) (h' : sle b c = true) : sle a c = true := by
  unfold sle at *; rw [ltCps_eq] at *
  simp only [Bool.not_eq_true', decide_eq_false_iff_not] at *
  exact fun q => h (List.lt_of_le_of_lt (List.not_lt.mp h') q)
theorem sle_anti {a b : Str} (h : sle a b = true) (h' : sle b a = true) : a = b := by
  unfold sle at *; rw [ltCps_eq] at *
  simp only [Bool.not_eq_true', decide_eq_false_iff_not] at *
  have : a.cps.toList = b.cps.toList := List.le_antisymm (List.not_lt.mp h) (List.not_lt.mp h')
  cases a; cases b; simp at this; simp [this]
theorem srt_sorted (l : List Str) : (srt l).Pairwise fun a b => sle a b = true := List.pairwise_mergeSort sle_trans sle_total l
theorem srt_perm (l : List Str) : (srt l).Perm l := List.mergeSort_perm l _
theorem srt_unique {l m : List Str} (h : m.Perm l) (hs : m.Pairwise fun a b => sle a b = true) : m = srt l :=
  (h.trans (srt_perm l).symm).eq_of_pairwise (fun a b _ _ h1 h2 => sle_anti h1 h2) hs (srt_sorted l)
theorem sortedS_pw : ∀ {l : List Str}, sortedS l = true → l.Pairwise fun a b => sle a b = true := by
  have rise : ∀ (r : List Str) (p : Str), risingS p r = true → (p :: r).Pairwise fun a b => sle a b = true := by
    intro r
    induction r with
    | nil => intro p _; simp
    | cons x r ih =>
      intro p h
      have h1 : sle p x = true ∧ risingS x r = true := by
        simp only [risingS] at h
        simpa [sle] using h
      have := ih x h1.2
      refine List.Pairwise.cons (fun y hy => ?_) this
      rcases List.mem_cons.mp hy with e | e
      · subst e; exact h1.1
      · exact sle_trans _ _ _ h1.1 (List.rel_of_pairwise_cons this e)
  intro l h
  cases l with
  | nil => exact .nil
  | cons x r => exact rise r x h
theorem Ims.strs {h : Heap} : ∀ {vs : List Value} {ss : List Str}, Ims h vs (ss.map .str) → StrsAre vs ss
  | _, [], q => by cases q; exact .nil
  | _, i :: is, q => by
    cases q with
    | cons a r => cases a with
      | str i t => exact .cons _ _ (Ims.strs r)
theorem Ims.ofStrs {h : Heap} : ∀ {vs : List Value} {ss : List Str}, StrsAre vs ss → Ims h vs (ss.map .str)
  | _, _, .nil => .nil
  | _, _, .cons y t r => .cons (.str _ _) (Ims.ofStrs r)
theorem BuiS.sorted {m : Md} {ss : List Str} (h : ss.length < 64) : BuiS B n (.builtin "sorted") [.ct m (.lst (ss.map .str))] (.ct .fr (.lst ((srt ss).map .str))) := .one fun env oa A s0 s v E b a x => by
  obtain ⟨l, vs, rfl, h1, h2⟩ := x.lst
  have hl : vs.toList.length = ss.length := by simpa using h2.length
  refine sorted_strs (vs := vs.toList) (by simpa using h1) h2.strs (by omega) fun out ss' e1 e2 e3 => ?_
  have hk : Kp B s { s with heap := sortedAll s.heap vs.toList out } := Kp.of (t := s.toks) fun b o q => sortedAll_old q
  obtain ⟨e, he⟩ := sortedAll_at s.heap vs.toList out
  refine ⟨hk, _, rfl, ⟨_, out, e, he, ⟨rfl, rfl⟩, rfl, ?_⟩, ?_⟩
  · rw [← srt_unique e2 (sortedS_pw e3)]
    exact Ims.ofStrs e1
  · cases q : s.heap.get? (s.heap.objs.size + 1) with
    | none => rfl
    | some o => exact absurd (Heap.lt_size q) (Nat.not_lt.mpr (Nat.le_succ _))

theorem CmpS.inInts {m : Md} {is : List Int} {i : Int} : CmpS B n .In (.im (.int i)) (.ct m (.lst (is.map .int))) (is.contains i) := fun env oa A s0 s vx vy E b a x y => by
  obtain ⟨l, vs, rfl, h1, h2⟩ := y.lst
  obtain ⟨t, rfl⟩ := x.int
  obtain ⟨xs, e1, e2⟩ := h2.ints
  refine SeqInW.in_listW (fun v => match v with | .int j _ => j == i | _ => false) (fun y hy => ?_) h1 ⟨?_, Kp.refl _⟩
  · have : y ∈ vs.toList := by simpa using hy
    rw [e1] at this
    obtain ⟨p, _, rfl⟩ := List.mem_map.mp this
    exact PySem.MeetsSeq.EqGives.int _ _ _ _
  · rw [← Array.any_toList, e1, ← e2]
    congr 1
    rw [List.any_map, List.contains_eq_any_beq, List.any_map]
    congr 1; funext p; simp [Bool.beq_comm]
theorem CmpS.inStrs {m : Md} {is : List Str} {i : Str} : CmpS B n .In (.im (.str i)) (.ct m (.lst (is.map .str))) (is.contains i) := fun env oa A s0 s vx vy E b a x y => by
  obtain ⟨l, vs, rfl, h1, h2⟩ := y.lst
  obtain ⟨t, rfl⟩ := x.str
  have hs := h2.strs
  refine SeqInW.in_listW (fun v => match v with | .str j _ => j.cps.toList == i.cps.toList | _ => false) (fun y hy => ?_) h1 ⟨?_, Kp.refl _⟩
  · have hy : y ∈ vs.toList := by simpa using hy
    have : ∀ {vs : List Value} {ss : List Str}, StrsAre vs ss → y ∈ vs → ∃ j t, y = .str j t := by
      intro vs ss h; induction h with
      | nil => intro q; cases q
      | cons y' t r ih =>
        intro q
        rcases List.mem_cons.mp q with e | q
        · exact ⟨_, _, e⟩
        · exact ih q
    obtain ⟨j, t', rfl⟩ := this hs hy
    exact PySem.SeqRoads2.EqGives.str _ _ _ _
  · rw [← Array.any_toList]
    congr 1
    have : ∀ {vs : List Value} {ss : List Str}, StrsAre vs ss → vs.any (fun v => match v with | .str j _ => j.cps.toList == i.cps.toList | _ => false) = ss.contains i := by
      intro vs ss h; induction h with
      | nil => rfl
      | cons y' t r ih =>
        rw [List.any_cons, ih, List.contains_cons]
        congr 1
        rw [Bool.eq_iff_iff]; simp only [beq_iff_eq]
        constructor
        · intro q; cases i; cases y'; simp at q; simp [q]
        · intro q; rw [q]
    exact this hs
theorem BinS.addL {m m' : Md} {l l' : List D} (h : l.length + l'.length ≤ sizeLine) : BinS B n .Add (.ct m (.lst l)) (.ct m' (.lst l')) (.ct .fr (.lst (l ++ l'))) := fun env oa A s0 s vx vy E b a x y => by
  obtain ⟨p, rfl, ⟨cls, dd, data, sl⟩, vs, k, h1, ⟨h2, _⟩, h3, h4⟩ := x.cont
  obtain ⟨q, rfl, ⟨cls2, dd2, data2, sl2⟩, ws, k2, g1, ⟨g2, _⟩, g3, g4⟩ := y.cont
  simp only at h2 h3 g2 g3
  subst h2 h3 g2 g3
  have e1 : vs.size = l.length := by rw [← Array.length_toList]; exact h4.length
  have e2 : ws.size = l'.length := by rw [← Array.length_toList]; exact g4.length
  refine concat_meets ⟨_, h1, rfl⟩ ⟨_, g1, rfl⟩ noFill_list_add seq_list_add PySem.F.slot_list_add PySem.F.entry_list_add (PySem.F.args_list_add_2 _ _) (list_addW p q vs ws k k2 dd dd2 sl sl2 (by omega)) ⟨h1, g1, ?_⟩
  have kk : Kp B s { s with heap := s.heap.push { cls := .type "list", data := .seq (vs ++ ws) } } := push_kp (t := s.toks) _
  refine ⟨kk, _, rfl, ⟨_, vs ++ ws, _, Heap.get?_push_size _ rfl, ⟨rfl, rfl⟩, rfl, ?_⟩, fresh_size s⟩
  rw [Array.toList_append]
  exact (h4.append g4).grow kk.tups
theorem BinS.addT {l l' : List D} (h : l.length + l'.length ≤ sizeLine) : BinS B n .Add (.im (.tup l)) (.im (.tup l')) (.im (.tup (l ++ l'))) := fun env oa A s0 s vx vy E b a x y => by
  obtain ⟨p, ⟨cls, dd, data, sl⟩, vs, k, rfl, h1, h2, h3, h4⟩ := x.tup
  obtain ⟨q, ⟨cls2, dd2, data2, sl2⟩, ws, k2, rfl, g1, g2, g3, g4⟩ := y.tup
  simp only at h2 h3 g2 g3
  subst h2 h3 g2 g3
  have e1 : vs.size = l.length := by rw [← Array.length_toList]; exact h4.length
  have e2 : ws.size = l'.length := by rw [← Array.length_toList]; exact g4.length
  by_cases hv : vs.isEmpty = true
  · refine concat_meets ⟨_, h1, rfl⟩ ⟨_, g1, rfl⟩ noFill_tuple_add seq_tuple_add PySem.F.slot_tuple_add PySem.F.entry_tuple_add (PySem.F.args_tuple_add_2 _ _) (tuple_addW0 p q vs ws k k2 dd dd2 sl sl2 hv) ⟨h1, g1, Kp.refl _, ?_⟩
    have : l = [] := by rw [Array.isEmpty_iff_size_eq_zero] at hv; exact List.length_eq_zero_iff.mp (by (clear e2 h; omega))
    subst this; exact Im.tup g1 rfl rfl g4
  · by_cases hw : ws.isEmpty = true
    · refine concat_meets ⟨_, h1, rfl⟩ ⟨_, g1, rfl⟩ noFill_tuple_add seq_tuple_add PySem.F.slot_tuple_add PySem.F.entry_tuple_add (PySem.F.args_tuple_add_2 _ _) (tuple_addW1 p q vs ws k k2 dd dd2 sl sl2 hv hw) ⟨h1, g1, Kp.refl _, ?_⟩
      have : l' = [] := by rw [Array.isEmpty_iff_size_eq_zero] at hw; exact List.length_eq_zero_iff.mp (by (clear hv e1 h; omega))
      subst this; rw [List.append_nil]; exact Im.tup h1 rfl rfl h4
    · refine concat_meets ⟨_, h1, rfl⟩ ⟨_, g1, rfl⟩ noFill_tuple_add seq_tuple_add PySem.F.slot_tuple_add PySem.F.entry_tuple_add (PySem.F.args_tuple_add_2 _ _) (tuple_addW2 p q vs ws k k2 dd dd2 sl sl2 hv hw (by (clear hw hv; omega))) ⟨h1, g1, ?_⟩
      have kk : Kp B s { s with heap := s.heap.push { cls := .type "tuple", data := .seq (vs ++ ws) } } := push_kp (t := s.toks) _
      refine ⟨kk, Im.tup (Heap.get?_push_size _ rfl) rfl rfl ?_⟩
      rw [Array.toList_append]
      exact (h4.append g4).grow kk.tups
theorem BinS.mulS {x : Str} {k : Int} (h : MulOk x k) : BinS B n .Mult (.im (.str x)) (.im (.int k)) (.im (.str (Txt.mul x k))) := fun env oa A s0 s vx vy E b a u y => by
  obtain ⟨t, rfl⟩ := u.str
  obtain ⟨t', rfl⟩ := y.int
  exact SB.mul h fun t' k => ⟨Kp.toks, Im.str _ _⟩
noncomputable def D.isNone : D → Bool
  | .none => true
  | _ => false
noncomputable def D.isTrue : D → Bool
  | .bool true => true
  | _ => false
theorem CmpS.isNone (d : D) : CmpS B n .Is (.im d) (.im .none) d.isNone := fun env oa A s0 s vx vy E b a x y => by
  rw [y.none]
  refine PyProof.Rows.is_none_gen ⟨?_, Kp.refl _⟩
  cases x <;> rfl
theorem CmpS.isNotNone (d : D) : CmpS B n .IsNot (.im d) (.im .none) (!d.isNone) := fun env oa A s0 s vx vy E b a x y => by
  rw [y.none]
  refine PyProof.Rows.isnot_none_gen ⟨?_, Kp.refl _⟩
  cases x <;> rfl
theorem CmpS.isNoneC (m : Md) (c : Cont) : CmpS B n .Is (.ct m c) (.im .none) false := fun env oa A s0 s vx vy E b a x y => by
  rw [y.none]
  obtain ⟨p, rfl, _⟩ := x.cont
  exact PyProof.Rows.is_none_gen ⟨rfl, Kp.refl _⟩
theorem CmpS.isTrue (d : D) : CmpS B n .Is (.im d) (.im (.bool true)) d.isTrue := fun env oa A s0 s vx vy E b a x y => by
  rw [y.bool]
  cases x with
  | none => exact wpAny_is_plain rfl ⟨rfl, Kp.refl _⟩
  | bool b => cases b <;> exact wpAny_is_plain rfl ⟨rfl, Kp.refl _⟩
  | int i t => exact wpAny_is_plain rfl ⟨rfl, Kp.refl _⟩
  | str i t => exact wpAny_is_plain rfl ⟨rfl, Kp.refl _⟩
  | tup h1 h2 h3 h4 => exact wpAny_is_plain rfl ⟨rfl, Kp.refl _⟩
theorem CmpS.isTrueC (m : Md) (c : Cont) : CmpS B n .Is (.ct m c) (.im (.bool true)) false := fun env oa A s0 s vx vy E b a x y => by
  rw [y.bool]
  obtain ⟨p, rfl, _⟩ := x.cont
  exact wpAny_is_plain rfl ⟨rfl, Kp.refl _⟩
theorem CmpS.neNil {m m' : Md} {l : List D} : CmpS B n .NotEq (.ct m (.lst l)) (.ct m' (.lst [])) (!l.isEmpty) := fun env oa A s0 s vx vy E b a x y => by
  obtain ⟨p, vs, rfl, h1, h2⟩ := x.lst
  obtain ⟨q, ws, rfl, g1, g2⟩ := y.lst
  have e1 : vs.size = l.length := by rw [← Array.length_toList]; exact h2.length
  have e2 : ws.size = 0 := by rw [← Array.length_toList]; exact g2.length
  cases l with
  | nil =>
    have hz : vs.size = 0 := e1
    refine RcNeAt.lists (e := fun _ => true) h1 g1 (by omega) a.un (fun j q1 q2 => by (clear e2; omega)) B.prog B.w E _ ?_
    rw [hz]
    exact ⟨rfl, Kp.refl _⟩
  | cons d r =>
    refine RcNeAt.lists_lengths h1 g1 (by simp only [bne_iff_ne, ne_eq]; rw [e1, e2]; simp) a.un B.prog B.w E _ ?_
    exact ⟨rfl, Kp.refl _⟩
theorem CmpS.eqNil {m m' : Md} {l : List D} : CmpS B n .Eq (.ct m (.lst l)) (.ct m' (.lst [])) l.isEmpty := fun env oa A s0 s vx vy E b a x y => by
  obtain ⟨p, vs, rfl, h1, h2⟩ := x.lst
  obtain ⟨q, ws, rfl, g1, g2⟩ := y.lst
  have e1 : vs.size = l.length := by rw [← Array.length_toList]; exact h2.length
  have e2 : ws.size = 0 := by rw [← Array.length_toList]; exact g2.length
  cases l with
  | nil =>
    have hz : vs.size = 0 := e1
    refine eq_listAt (e := fun _ => true) h1 g1 (by omega) a.un (fun j q1 q2 => by (clear e2; omega)) ?_
    rw [hz]
    exact ⟨rfl, Kp.refl _⟩
  | cons d r =>
    refine eq_list_lengthsAt h1 g1 (by simp only [bne_iff_ne, ne_eq]; rw [e1, e2]; simp) a.un ?_
    exact ⟨rfl, Kp.refl _⟩
end
end Mine
end

section
open PySem PySem.W PyProof.Rows PySem.Calls PyProof
set_option Elab.async false
set_option maxRecDepth 100000
set_option linter.unusedVariables false
namespace Mine
section
variable {B : Bs} {F : Fi} {X : Str → Prop} {n : Nat} {ρ : List (Option Sl)}
theorem BinS.modP {a b : Int} (hb : 0 < b) : BinS B n .Mod (.im (.int a)) (.im (.int b)) (.im (.int (a % b))) := by
  rw [← Int.fmod_eq_emod_of_nonneg a (Int.le_of_lt hb)]; exact BinS.mod (by omega)
theorem BinS.fdivP {a b : Int} (hb : 0 < b) (hp : b.natAbs.log2 < 9000) : BinS B n .FloorDiv (.im (.int a)) (.im (.int b)) (.im (.int (a / b))) := by
  rw [← Int.fdiv_eq_ediv_of_nonneg a (Int.le_of_lt hb)]; exact BinS.fdiv (by (clear hp; omega)) hp

noncomputable def compB (F : Fi) (scope : Scope) (m : Nat) (caps : List Nat) (vars : List (Str × Kd)) : Bool :=
  decide (scope.names.map (·.1)).Nodup && decide (scope.kind = .function) && (scope.names.all fun x => !decide (x.2 = .local) || decide (scope.names.lookup x.1 = some .local)) &&
  (scope.names.all fun x => !decide (x.2 = .free) || (F.vars.any fun y => decide (y.1 = x.1) && !decide (y.2 = .loc))) &&
  ((vars.take m).all fun y => decide (scope.names.lookup y.1 = some y.2.kind) && !decide (y.2 = .fre)) &&
  (((vars.drop m).zip caps).all fun p => decide (scope.names.lookup p.1.1 = some .free) && (F.vars[p.2]?.any fun q => decide (q.1 = p.1.1) && !decide (q.2 = .loc))) &&
  decide ((vars.drop m).length = caps.length)
theorem CompOk.of {Fc : Fi} {scope : Scope} {m : Nat} {caps : List Nat} (h1 : Fc.scope = relabelS scope F.scope) (h2 : Fc.own = m) (h : compB F scope m caps Fc.vars = true) : CompOk F Fc scope m caps := by
  simp only [compB, Bool.and_eq_true, decide_eq_true_eq, List.all_eq_true, Bool.or_eq_true, Bool.not_eq_true', decide_eq_false_iff_not] at h
  obtain ⟨⟨⟨⟨⟨⟨a1, a2⟩, a3⟩, a4⟩, a5⟩, a6⟩, a7⟩ := h
  refine ⟨h1, a1, h2, a2, fun x hx e => ?_, fun x hx e => ?_, fun i x k hi hx => ?_, fun i x k hi hx => ?_⟩
  · exact (a3 x hx).resolve_left fun q => q e
  · have := (a4 x hx).resolve_left fun q => q e
    simp only [List.any_eq_true, Bool.and_eq_true, decide_eq_true_eq, Bool.not_eq_true', decide_eq_false_iff_not] at this
    obtain ⟨y, hy, e1, e2⟩ := this
    obtain ⟨i, hi⟩ := List.mem_iff_getElem?.mp hy
    exact ⟨i, y.2, by rw [hi, ← e1], e2⟩
  · have : (x, k) ∈ Fc.vars.take m := List.mem_iff_getElem?.mpr ⟨i, by rw [List.getElem?_take_of_lt hi]; exact hx⟩
    exact a5 _ this
  · have hd : (Fc.vars.drop m)[i - m]? = some (x, k) := by rw [List.getElem?_drop, show m + (i - m) = i by (clear a7 h2; omega)]; exact hx
    have hlt : i - m < (Fc.vars.drop m).length := (List.getElem?_eq_some_iff.mp hd).1
    have hc : caps[i - m]? = some caps[i - m] := List.getElem?_eq_getElem (by (clear hi h2; omega))
    have hz : ((x, k), caps[i - m]) ∈ (Fc.vars.drop m).zip caps := List.mem_iff_getElem?.mpr ⟨i - m, by rw [List.getElem?_zip_eq_some]; exact ⟨hd, hc⟩⟩
    obtain ⟨b1, b2⟩ := a6 _ hz
    refine ⟨b1, caps[i - m], ?_⟩
    cases q : F.vars[caps[i - m]]? with
    | none => rw [q] at b2; simp at b2
    | some y =>
      rw [q] at b2
      simp only [Option.any_some, Bool.and_eq_true, decide_eq_true_eq, Bool.not_eq_true', decide_eq_false_iff_not] at b2
      exact ⟨y.2, hc, by rw [← b2.1], b2.2⟩
noncomputable abbrev Fcm (F : Fi) (scope : Scope) (vars : List (Str × Kd)) (m : Nat) (hok : fiOk (relabelS scope F.scope) vars = true) : Fi := ⟨relabelS scope F.scope, vars, m, hok⟩
theorem EW.compV {elt target iter : Expr} {ifs : List Expr} {scope : Scope} {pos : Pos} {Q : AV → Prop} (vars : List (Str × Kd)) (m : Nat) (caps : List Nat) (hok : fiOk (relabelS scope F.scope) vars = true) (hc : compB F scope m caps vars = true)
    (h : EW B F X n ρ iter fun r => ∃ ds, IterS B n r ds ∧ ∃ f : D → Option D, (∀ d ∈ ds, CW B (Fcm F scope vars m hok) n m (compStart0 m ρ caps) target ifs elt d (f d)) ∧ (ds.filterMap f).length ≤ sizeLine ∧ Q (.ct .fr (.lst (ds.filterMap f))))
    (hs : ∀ env x, foldedSetIterable iter env x = pure x := by intros; rfl) (hq : B.quiet = true := by assumption) : EW B F X n ρ (.ListComp elt [⟨target, iter, ifs, 0⟩] scope pos) Q :=
  EW.comp (Fc := Fcm F scope vars m hok) (m := m) (caps := caps) (CompOk.of rfl rfl hc) h hs hq
theorem SW.assignCompV {x : Str} {pos' : Pos} {elt target iter : Expr} {ifs : List Expr} {scope : Scope} {pos cpos : Pos} {Q : Fl → List (Option Sl) → Prop} (i : Nat) (vars : List (Str × Kd)) (m : Nat) (caps : List Nat) (hx : F.vars[i]? = some (x, .loc)) (hi : i < F.own)
    (hok : fiOk (relabelS scope F.scope) vars = true) (hc : compB F scope m caps vars = true)
    (h : EW B F X n ρ iter fun r => ∃ ds, IterS B n r ds ∧ ∃ f : D → Option D, (∀ d ∈ ds, CW B (Fcm F scope vars m hok) n m (compStart0 m ρ caps) target ifs elt d (f d)) ∧ (ds.filterMap f).length ≤ sizeLine ∧ Q .next (ρ.set i (some (.own (.lst (ds.filterMap f))))))
    (hl : pos'.line = cpos.line) (hn : (scope.names.any fun (y, k) => y == x && (k == .local || k == .cell)) = false)
    (hs : ∀ env x, foldedSetIterable iter env x = pure x := by intros; rfl) (hq : B.quiet = true := by assumption) : SW B F X n ρ (.Assign [.Name x pos'] (.ListComp elt [⟨target, iter, ifs, 0⟩] scope cpos) pos) Q :=
  SW.assignComp (Fc := Fcm F scope vars m hok) (m := m) (caps := caps) i hx hi (CompOk.of rfl rfl hc) h hl hn hs hq
theorem SW.assignCell {x : Str} {pos' : Pos} {elt : Expr} {gens : List Comprehension} {scope : Scope} {pos cpos : Pos} {Q : Fl → List (Option Sl) → Prop} (i : Nat) (hx : F.vars[i]? = some (x, .cel)) (hi : i < F.own)
    (h : EW B F X n ρ (.ListComp elt gens scope cpos) fun r => ∃ sl, r.sl = some sl ∧ Q .next (ρ.set i (some sl))) : SW B F X n ρ (.Assign [.Name x pos'] (.ListComp elt gens scope cpos) pos) Q :=
  .mk fun env oa A s hd R a => by
    have hkx : env.kindOf x = some .cell := by unfold Env.kindOf; rw [R.scope]; exact (F.at hx).1
    have hsw : swapsWith (.ListComp elt gens scope cpos) (some (.Name x pos')) pos.line env = pure false := by
      have e : swapsWith (.ListComp elt gens scope cpos) (some (.Name x pos')) pos.line env = pure (env.blockKind == .function && env.kindOf x == some .local && pos'.line == cpos.line
        && !(scope.names.any fun (n, k) => n == x && (k == .local || k == .cell))) := rfl
      rw [e, hkx, show ((some NameKind.cell : Option NameKind) == some NameKind.local) = false from rfl]; simp
    exact wpAny_Assign_Name (wpAny_mono (h.go env oa A s R a) (fun v s1 ⟨r, ⟨sl, hsl, q⟩, k1, x1⟩ =>
      wpAny_mono (storeVar R k1 x1 hx hsl (by decide) hi) (fun _ s2 hz2 => by obtain ⟨h1, h2, h3, _⟩ := hz2; exact ⟨.next, _, _, q, trivial, h1, (Kp.toW k1).trans (h2.mono fun _ x => .inl x) (fun _ x => .inl x), h3⟩) fun _ _ x => x) fun _ _ x => x.toW) hsw
theorem ifT {P Q : Prop} (h : P) : if true = true then P else Q := by simpa using h
theorem ifF {P Q : Prop} (h : Q) : if false = true then P else Q := by simpa using h
theorem intsFrom_length (a : Int) (k : Nat) : (intsFrom a k).length = k := by
  induction k generalizing a with
  | zero => rfl
  | succ k ih => simp [intsFrom, ih]
noncomputable def bodyOf (p : Program) (i : Nat) : List Stmt :=
  match p.main.body[i]? with
  | some (.FunctionDef _ _ b _ _ _ _ _ _ _) => b
  | _ => []
noncomputable def scopeOf (p : Program) (i : Nat) : Scope :=
  match p.main.body[i]? with
  | some (.FunctionDef _ _ _ _ _ _ s _ _ _) => s
  | _ => p.main.scope
end
end Mine
end

section
open PySem PySem.W PyProof.Rows PySem.Calls PyProof
set_option Elab.async false
set_option maxRecDepth 100000
namespace Mine
theorem bb_len : bootBuiltins "len" = some (.builtin "len") := by decide +kernel
theorem bb_sorted : bootBuiltins "sorted" = some (.builtin "sorted") := by decide +kernel
theorem bb_sum : bootBuiltins "sum" = some (.builtin "sum") := by decide +kernel
theorem bb_isinstance : bootBuiltins "isinstance" = some (.builtin "isinstance") := by decide +kernel
theorem bb_abs : bootBuiltins "abs" = some (.builtin "abs") := by decide +kernel
theorem bb_list : bootBuiltins "list" = some (.type "list") := by decide +kernel
theorem bb_tuple : bootBuiltins "tuple" = some (.type "tuple") := by decide +kernel
theorem bb_range : bootBuiltins "range" = some (.type "range") := by decide +kernel
theorem bb_int : bootBuiltins "int" = some (.type "int") := by decide +kernel
theorem bb_bool : bootBuiltins "bool" = some (.type "bool") := by decide +kernel
theorem bb_str : bootBuiltins "str" = some (.type "str") := by decide +kernel
theorem bb_dict : bootBuiltins "dict" = some (.type "dict") := by decide +kernel
theorem bb_set : bootBuiltins "set" = some (.type "set") := by decide +kernel

section
variable {B : Bs} {F : Fi} {X : Str → Prop} {n : Nat} {ρ : List (Option Sl)}
noncomputable def constStrs : List Expr → Option (List Str)
  | [] => some []
  | .Constant (.str x) _ _ :: es => (constStrs es).map (x :: ·)
  | _ => none
theorem LW.strs : ∀ {es : List Expr} {ss : List Str}, constStrs es = some ss → LW B F X n ρ es fun rs => Dats rs (ss.map .str)
  | [], ss, h => by cases h; exact LW.nil .nil
  | e :: es, ss, h => by
    unfold constStrs at h
    split at h
    · rename_i q; cases q
    · rename_i x k p es' q
      cases q
      cases hq : constStrs es with
      | none => rw [hq] at h; cases h
      | some ss' =>
        rw [hq] at h; cases h
        exact LW.cons (EW.cstr (LW.mono (LW.strs hq) fun rs d => .cons d))
    · cases h
theorem EW.strs {es : List Expr} {pos : Pos} {Q : AV → Prop} (ss : List Str) (h : constStrs es = some ss) (hl : ss.length ≤ sizeLine) (q : Q (.ct .fr (.lst (ss.map .str)))) : EW B F X n ρ (.List es pos) Q :=
  EW.list (LW.mono (LW.strs h) fun rs d => ⟨_, d, by simpa using hl, q⟩)
end
end Mine
end

section
open PySem PySem.W PyProof.Rows PySem.Calls PyProof
set_option Elab.async false
set_option maxRecDepth 100000
set_option linter.unusedVariables false
namespace Mine
noncomputable def recOf (p : Program) (i : Nat) : DefRec :=
  match p.main.body[i]? with
  | some (.FunctionDef n a b _ _ _ s _ _ pos) => ⟨n, a, b, s, pos⟩
  | _ => ⟨"", { posonlyargs := [], args := [], vararg := none, kwonlyargs := [], kw_defaults := [], kwarg := none, defaults := [] }, [], p.main.scope, ⟨0, 0, 0, 0⟩⟩
noncomputable def Bs.ofTop {p : Program} {loose mean mg mb h} (T : Top p loose mean mg mb h) (prog : Program) (w : World) : Bs := ⟨prog, w, h, mg, mb, T.g, T.b, T.builtins, T.nolimit, true⟩
theorem FnAt.ofTop {p : Program} {loose mean mg mb h} (T : Top p loose mean mg mb h) (prog : Program) (w : World) (d : DefRec) {i : Nat} (hd : (recsOf p)[i]? = Option.some d) {f names body scope} (h1 : d.name = f) (h2 : d.body = body) (h3 : d.scope = scope)
    (hb : ∀ pm code doc vs, vs.length = names.length → bindArgs (docDef d.name d.params d.body d.scope pm code doc) ⟨vs, []⟩ = pure (names.zip vs))
    (co : scope.isCoroutine = false) (gen : scope.isGenerator = false) (cells : ((cellsFrom 0 scope.names []).map (·.1)).Nodup) : FnAt (Bs.ofTop T prog w) f names body scope := by
  obtain ⟨a, o, pm, code, doc, e1, e2, e3, e4⟩ := T.fn d (List.mem_of_getElem? hd)
  subst h1 h2 h3
  exact ⟨⟨a, o, _, e1, e2, e3, rfl, rfl, rfl, rfl, rfl, e4, fun vs hv => hb pm code doc vs hv⟩, co, gen, cells⟩
theorem IntsAre.ims {h : Heap} : ∀ {vs : List Value} {is : List Int}, IntsAre vs is → Ims h vs (is.map .int)
  | _, _, .nil => .nil
  | _, _, .cons _ t r => .cons (.int _ t) (IntsAre.ims r)
theorem script {P : Params} {h : Heap} {B : Bs} {a : Addr} {vs : List Value} {is : List Int} {x : WData} (w1 : Well P h (.ref a) x) (hx : ∃ xs, x = .list xs) (hl : h.IsList a vs.toArray) (hi : IntsAre vs is) : ContAt B h a (.lst (is.map .int)) := by
  obtain ⟨xs, rfl⟩ := hx
  cases w1 with
  | list e hw =>
    obtain ⟨o, ho, hc, k, hd⟩ := hl
    rw [e] at ho; cases ho
    exact ⟨_, _, _, e, ⟨rfl, rfl⟩, hd, by simpa using IntsAre.ims hi⟩
theorem post_ok (l : OpenLaw) (args : List WData) : l.row.claim.post args (.bool true) args = true := by
  show (WShape.has [] (.bool true) .bool && WTm.holds [] (.eq .res (.lit (.bool true))) { args := args, res := some (.bool true), after := args }) = true
  rw [Bool.and_eq_true]
  refine ⟨by decide +kernel, ?_⟩
  unfold WTm.holds
  simp only [WTm.value]
  rw [show PySem.W.same (WData.bool true) (WData.bool true) = true by decide +kernel]
theorem ends {l : OpenLaw} {p : Program} {loose mean mg mb} {s₁ : Shared} {w : World} (T : Top p loose mean mg mb s₁.heap) {f : Str} {fa a : Addr} {is : List Int} {cl : Str → Option Addr} {args : List WData} (N : Nat) (hN : N < 690)
    (sp : Spec (Bs.ofTop T l.row.prog w) f NoX N [.ct (.lst (is.map .int))] fun q => q = .im (.bool true)) (hm : mg f = some (.ref fa)) (ha : ContAt (Bs.ofTop T l.row.prog w) s₁.heap a (.lst (is.map .int))) (hg : s₁.gens = #[])
    (hp : l.row.claim.post args (.bool true) args = true) (hr : ∀ cls, l.row.claim.raises args cls = false) :
    wpAny (model l.row.prog w) callerA (call (.ref fa) [.ref a]) (fun v s' => GoodWG l.row.claim cl mean args s₁ (Except.ok (Flow.ret v)) s') (fun e s' => GoodWG l.row.claim cl mean args s₁ (Except.error e) s') s₁ := by
  obtain ⟨fa', o, fd, h1, h2, h3, h4⟩ := sp
  have : fa' = fa := by
    have e : mg f = some (.ref fa') := h1
    rw [hm] at e; cases e; rfl
  subst this
  refine wpAny_call (codeAny_mono (h4 callerA s₁ [.ref a] (fun b o e => e) ⟨?_, ?_, fun _ => rfl, [], rfl, trivial, fun L hL => by cases hL⟩ rfl ?_) fun r s' x => ?_)
  · show 1 + claimMargin + N < recursionLimit
    have : claimMargin = 300 := rfl
    have : recursionLimit = 1000 := rfl
    omega
  · show 4 + 10 * N < cLine
    have : cLine = 9900 := rfl
    omega
  · intro i v g e1 e2
    match i, e1, e2 with
    | 0, e1, e2 => cases e1; cases e2; exact ⟨a, rfl, ha⟩
    | i + 1, e1, e2 => simp at e1
  · match r, x with
    | .ok (.ret v), ⟨q, hq, k, hv⟩ =>
      subst hq
      cases hv
      refine ⟨.inl ⟨_, .bool true, [], rfl, hr, .bool true, hp, fun _ => ⟨List.nodup_nil, fun a ha => by cases ha⟩⟩, .of_keep fun b o e => k.keep b o e (fun x => x) (.inr ?_), k.os, .of_eq (k.gens.trans hg)⟩
      show (s₁.heap.get? b).isSome = true
      rw [e]; rfl
    | .ok .next, x => exact x.elim
    | .ok .brk, x => exact x.elim
    | .ok .cont, x => exact x.elim
    | .error e, x => exact x.no.elim
end Mine
end

section
open PySem PySem.W PyProof.Rows PySem.Calls PyProof
set_option Elab.async false
set_option maxRecDepth 100000
set_option linter.unusedVariables false
namespace Mine
section
variable {B : Bs} {F : Fi} {X : Str → Prop} {n : Nat} {ρ : List (Option Sl)}
noncomputable def bmV : List Value := [.type "ValueError", .type "Exception", .type "BaseException", .type "object"]
noncomputable def Own (B : Bs) (c : Str) (C : Addr) : Prop := OwnClsQ c C bmV "ValueError.__new__" B.mg B.hB
theorem Own.ofTop {p : Program} {loose mean mg mb h} (T : Top p loose mean mg mb h) (prog : Program) (w : World) {c : Str} (hs : specOf p c = some ("ValueError.__new__", bmV)) : ∃ C, Own (Bs.ofTop T prog w) c C :=
  by obtain ⟨C, O, _⟩ := T.ownAt hs; exact ⟨C, O⟩
theorem SW.raise_ {x : Str} {np cpos pos p : Pos} {msg : Str} {k} {Q : Fl → List (Option Sl) → Prop} (hk : F.scope.names.lookup x = some .globalImplicit) (hc : ∃ C, Own B x C) (hX : X x)
    (hd : (x == ("__debug__" : Str)) = false := by decide) (hq : B.quiet = true := by assumption) :
    SW B F X n ρ (.Raise (some (.Call (.Name x np) [.Constant (.str msg) k p] [] cpos)) none pos) Q := by
  refine .mk ?_
  intro env oa A s hd' R a
  obtain ⟨C, O⟩ := hc
  have hkf : env.scope.kind = .function := by rw [R.scope]; exact F.fn
  have hx : env.kindOf x = some .globalImplicit := by unfold Env.kindOf; rw [R.scope]; exact hk
  obtain ⟨tl, N, nm, q, bs, hdct, sn, sub, ab, col, dd, k0, k1, k2, k3, k5, mN, hC, hN, hni, T⟩ := O.own.obj
  have FB := PySem.F.excBase_ValueError
  refine wpAny_Raise_call_subU (C := C) (nm := nm) (q := q) (N := N) (bs := bs) (bm := tl) (hdct := hdct) (sn := sn) (sub := sub) (ab := ab) (col := col) (dd := dd) (k0 := k0) (k1 := k1) (k2 := k2) (k3 := k3) (k5 := k5)
    FB (by decide +kernel) FB (mN := mN) (T.hasType FB.hasBase) (a.handled hq) rfl hni ?_
  refine Name_function_global hkf hx (loadGlobal_global (by rw [R.globals]; exact B.g.keeps R.base) O.bound ⟨rfl, ?_⟩) hd
  have lw : LW B F X n ρ [.Constant (.str msg) k p] fun rs => rs.length = 1 := LW.cons (EW.cstr (LW.nil rfl))
  refine Calls.evalArgs_plain (wpAny_mono (lw.go env oa A s cpos R a) (fun vs s2 hz1 => ?_) fun _ _ x => x.toW)
  obtain ⟨rs, h1, k12, h3, _⟩ := hz1
  have R2 := R.kp k12
  refine ⟨rfl, by rw [h3, h1]; decide, R2.base _ _ hC, hN.keeps R2.base, T.keeps R2.base, fun h' e hm => ?_⟩
  obtain ⟨t, ht, _, _⟩ := hm.there
  have k2 : Kp B s2 { s2 with heap := h' } := Kp.of (t := s2.toks) hm.keeps
  refine ⟨x, .ref C, e, hX, O.bound, rfl, (k12.trans k2).toW, k12.fresh hm.new, _, _, ht, rfl, rfl, (show 5 ≤ 6 by decide), .inl rfl⟩
end
end Mine
end

section
open PySem PySem.W PyProof.Rows PySem.Calls PyProof
set_option Elab.async false
set_option maxRecDepth 100000
set_option linter.unusedVariables false
namespace Mine
section
variable {prog : Program} {w : World} {A : Around} {E : Value → Shared → Prop} {h : Heap} {g : Array GenState} {d : Drawn} {t : Nat} {os : OsState} {a C : Addr} {o : Obj} {vs : Array Value} {K : Frag}
structure XC (K : Frag) (C : Addr) : Prop where
  ga : findIn K (.ref C) "__getattribute__" = some (some (.builtin "BaseException.__getattribute__"))
  gt : findIn K (.ref C) "__getattr__" = some none
  cl : findIn K (.ref C) "__class__" = some (some (.builtin "object.__class__"))
  be : mroIn K C (.type "BaseException") = some true
  ob : mroIn K C (.type "object") = some true
  ve : mroIn K C (.type "ValueError") = some true
  so : (clsIn K C).isSome = true
  ins : instIn K (.ref C) (.type "type") = some true
  ty : typeIn K (.ref C) = some (.type "type")
theorem class_get_exc {R : Result → Shared → Prop} (X : K.In h) (x : XC K C) (hx : h.get? a = some o) (hc : o.cls = .ref C) (hq : R (.ok (.ret (.ref C))) ⟨h, g, d, t, os⟩) :
    codeAny (model prog w) A (.call (.builtin "getset_descriptor.__get__") ⟨[.builtin "object.__class__", .ref a, .ref C], []⟩) R ⟨h, g, d, t, os⟩ := by
  have hT5 : (⟨h, g, d, t, os⟩ : Shared).TypeIs (.builtin "object.__class__") "getset_descriptor" := PySem.F.typeOf_object_class
  have L4 : Looks (model prog w) h (isSubtype (.ref C) (.type (".".intercalate ("object.__class__".cutAt '.').dropLast))) true := by rw [PySem.F.owner_object_class]; exact looks_mroIn X x.ob
  refine codeAny_call_builtin PySem.F.slot_gs_get.plain PySem.F.entry_gs_get (PySem.F.slot_gs_get.check _ _ _ _ _ _ _ _ hT5 (PySem.F.args_gs_get _ _ _) ?_)
  repeat (any_goals (first | assumption | (with_reducible refine wpAny_loadPart_at hx ?_; rw [hc]) | with_reducible refine L4.at ?_ | wp_step))
  refine ⟨Code.quiet_builtin _ (by decide +kernel), codeAny_builtin PySem.F.entry_object_class ?_⟩
  repeat (any_goals (first | assumption | (with_reducible refine wpAny_loadPart_at hx ?_; rw [hc]) | wp_step))
theorem check_ga_exc {nameV : Value} {Q : Unit → Shared → Prop} (X : K.In h) (x : XC K C) (hx : h.get? a = some o) (hc : o.cls = .ref C) (hq : Q () ⟨h, g, d, t, os⟩) : wpAny (model prog w) A (checkBuiltinCall "BaseException.__getattribute__" ⟨[.ref a, nameV], []⟩) Q E ⟨h, g, d, t, os⟩ := by
  have hk : builtinKind "BaseException.__getattribute__" = some .slot := by decide +kernel
  have hsplit : splitId "BaseException.__getattribute__" = some ("BaseException", "__getattribute__") := by decide +kernel
  have L4 : Looks (model prog w) h (isSubtype (.ref C) (.type "BaseException")) true := looks_mroIn X x.be
  have ha := PySem.F.args_bexc_ga (.ref a) nameV
  simp only [checkBuiltinCall, hk, hsplit]
  refine wpAny_bind ?_
  · unfold isInstance
    repeat (first | (with_reducible refine wpAny_loadPart_at hx ?_; rw [hc]) | with_reducible refine L4.at ?_ | wp_step)
    exact hq
theorem class_entry_exc {tk : Tok} {Q : Fin → Shared → Prop} (X : K.In h) (x : XC K C) (hx : h.get? a = some o) (hc : o.cls = .ref C) (hq : Q (.done (.ret (.ref C))) ⟨h, g, d, t, os⟩) :
    wpAny (model prog w) A (Builtin.«object.__getattribute__» ⟨[.ref a, .str "__class__" tk], []⟩) Q E ⟨h, g, d, t, os⟩ := by
  have hT5 : (⟨h, g, d, t, os⟩ : Shared).TypeIs (.builtin "object.__class__") "getset_descriptor" := PySem.F.typeOf_object_class
  have f5 := PySem.F.typeOf_object_class
  have f6 := PySem.F.slot_gs_get.lookup
  have f7 := PySem.F.slot_gs_set.lookup
  have L : Looks (model prog w) h (typeLookup (.ref C) "__class__") (some (.builtin "object.__class__")) := looks_findIn X x.cl
  repeat (any_goals (first | assumption | (with_reducible refine wpAny_loadPart_at hx ?_; rw [hc]) | with_reducible refine L.at ?_ | wp_step))
  refine class_get_exc X x hx hc ?_
  repeat (any_goals (first | assumption | wp_step))
theorem class_by_exc {tk : Tok} {fill expr : Bool} {Q : Value → Shared → Prop} (X : K.In h) (x : XC K C) (hx : h.get? a = some o) (hc : o.cls = .ref C) (hq : Q (.ref C) ⟨h, g, d, t, os⟩) :
    wpAny (model prog w) A (getAttrBy (.ref a) (.str "__class__" tk) fill expr) Q E ⟨h, g, d, t, os⟩ := by
  have f3 := PySem.F.attr_ValueError.ga.bind (.ref a)
  have hx0 : (expr && onTheHeap (Value.builtin "BaseException.__getattribute__")) = false := by cases expr <;> rfl
  have hx2 : (Value.builtin "BaseException.__getattribute__" == Value.builtin "object.__getattribute__") = false := by decide +kernel
  have hx1 : (onTheHeap (Value.ref C) && Value.builtin "BaseException.__getattribute__" == Value.builtin "object.__getattribute__") = false := by rw [hx2]; rfl
  have L1 : Looks (model prog w) h (typeLookup (.ref C) "__getattribute__") _ := looks_findIn X x.ga
  have L2 : Looks (model prog w) h (typeLookup (.ref C) "__getattr__") _ := looks_findIn X x.gt
  repeat (any_goals (first | assumption | (with_reducible refine wpAny_loadPart_at hx ?_; rw [hc]) | with_reducible refine L1.at ?_ | with_reducible refine L2.at ?_ | wp_step))
  refine codeAny_call_builtin PySem.F.attr_ValueError.ga.plain PySem.F.entry_bexc_ga (check_ga_exc X x hx hc (class_entry_exc X x hx hc ?_))
  repeat (any_goals (first | assumption | wp_step))
theorem class_attr_exc {Q : Option Value → Shared → Prop} (X : K.In h) (x : XC K C) (hx : h.get? a = some o) (hc : o.cls = .ref C) (hq : Q (some (.ref C)) ⟨h, g, d, t + 1, os⟩) : wpAny (model prog w) A (getAttr? (.ref a) "__class__") Q E ⟨h, g, d, t, os⟩ := by
  unfold getAttr? getAttrBy?
  repeat (any_goals (first | assumption | with_reducible apply class_by_exc X x hx hc | wp_step))

noncomputable def XNot (K : Frag) (C D : Addr) : Bool := (clsIn K D).isSome && typeIn K (.ref D) == some (.type "type") && instIn K (.ref D) (.type "type") == some true && mroIn K C (.ref D) == some false && !(C == D)
theorem isn_nested_exc {D : Addr} {dep : Int} {tk : Tok} {Q : Fin → Shared → Prop} {s : Shared} (X : K.In s.heap) (x : XC K C) (e : XNot K C D = true) (p : ∃ o, s.heap.get? a = some o ∧ o.cls = .ref C) (hq : Q (.done (.ret (.bool false))) { s with toks := s.toks + 1 }) :
    wpAny (model prog w) A (Builtin.«isinstance.nested» ⟨[.ref a, .ref D, .int dep tk], []⟩) Q E s := by
  obtain ⟨hh, g, d, tt, os⟩ := s
  obtain ⟨o, hx, hc⟩ := p
  have ht : Looks (model prog w) hh (typeOf (.ref a)) (.ref C) := (Looks.ld hx).andThen (by rw [hc]; exact .now)
  unfold Builtin.«isinstance.nested»
  refine wpAny_bind (ht.at ?_)
  unfold XNot at e
  rw [Bool.and_eq_true, Bool.and_eq_true, Bool.and_eq_true, Bool.and_eq_true] at e
  obtain ⟨⟨⟨⟨e0, e1⟩, e2⟩, e3⟩, e4⟩ := e
  rw [if_neg (fun q => by have := beq_iff_eq.mp q; cases this; simp at e4)]
  have L1 := looks_typeIn (M := model prog w) X (beq_iff_eq.mp e1)
  have L2 := looks_instIn (M := model prog w) X (beq_iff_eq.mp e2)
  have L4 : Looks (model prog w) hh (isSubtype (.ref C) (.ref D)) false := looks_mroIn X (beq_iff_eq.mp e3)
  have L3 : Looks (model prog w) hh (isInstance (.ref a) (.ref D)) false := ht.andThen L4
  refine wpAny_bind (L1.at ?_)
  rw [if_pos (by decide)]
  k_delta "plainIsInstance"
  unfold isType
  repeat lk
  unfold clsIn at e0
  split at e0
  · rename_i ho
    refine nd_load (X _ _ ho) (nd_pure (wpAny_pure ?_))
    simp only [Bool.not_true, Bool.false_eq_true, if_false]
    refine wpAny_bind (L3.at ?_)
    simp only [Bool.false_eq_true, if_false]
    refine wpAny_bind (class_attr_exc X x hx hc ?_)
    have L5 := looks_instIn (M := model prog w) X x.ins
    have e6 := x.so
    unfold clsIn at e6
    split at e6
    · rename_i ho2
      refine wpAny_bind ?_
      repeat lk
      refine nd_load (X _ _ ho2) (nd_pure (wpAny_pure ?_))
      simp only [Bool.not_true, Bool.false_eq_true, if_false]
      refine wpAny_bind (wpAny_rule ?_)
      refine L4.at ?_
      exact wpAny_pure hq
    · cases e6
  · cases e0
theorem isi_exc_not {D : Addr} {Q : Value → Shared → Prop} {s : Shared} (X : K.In s.heap) (x : XC K C) (e : XNot K C D = true) (p : ∃ o, s.heap.get? a = some o ∧ o.cls = .ref C) (hq : Q (.bool false) { s with toks := s.toks + 1 }) :
    wpAny (model prog w) A (call (.builtin "isinstance") [.ref a, .ref D]) Q E s :=
  call_isinstance (S := fun _ R s => (K.In s.heap ∧ ∃ o, s.heap.get? a = some o ∧ o.cls = .ref C) ∧ R (.ok (.ret (.bool false))) { s with toks := s.toks + 1 })
    (fun _ _ _ _ _ hs => isinstance_outer (isn_nested_exc hs.1.1 x e hs.1.2 hs.2) (by intro q; cases q)) ⟨⟨X, p⟩, hq⟩
theorem isi_exc_self {Q : Value → Shared → Prop} {s : Shared} (X : K.In s.heap) (p : ∃ o, s.heap.get? a = some o ∧ o.cls = .ref C) (hq : Q (.bool true) s) :
    wpAny (model prog w) A (call (.builtin "isinstance") [.ref a, .ref C]) Q E s :=
  isi_call X (t := .ref C) (fun M => by obtain ⟨o, hx, hc⟩ := p; exact (Looks.ld hx).andThen (by rw [hc]; exact .now)) (by simp [isIn]) (by intro q; cases q) hq
theorem isi_nested_base {dep : Int} {tk : Tok} {Q : Fin → Shared → Prop} {s : Shared} (X : K.In s.heap) (x : XC K C) (p : ∃ o, s.heap.get? a = some o ∧ o.cls = .ref C) (hq : Q (.done (.ret (.bool true))) s) :
    wpAny (model prog w) A (Builtin.«isinstance.nested» ⟨[.ref a, .type "ValueError", .int dep tk], []⟩) Q E s := by
  obtain ⟨hh, g, d, tt, os⟩ := s
  obtain ⟨o, hx, hc⟩ := p
  have ht : Looks (model prog w) hh (typeOf (.ref a)) (.ref C) := (Looks.ld hx).andThen (by rw [hc]; exact .now)
  unfold Builtin.«isinstance.nested»
  refine wpAny_bind (ht.at ?_)
  rw [if_neg (fun q => by have := beq_iff_eq.mp q; cases this)]
  have L4 : Looks (model prog w) hh (isSubtype (.ref C) (.type "ValueError")) true := looks_mroIn X x.ve
  have L3 : Looks (model prog w) hh (isInstance (.ref a) (.type "ValueError")) true := ht.andThen L4
  have L1 : Looks (model prog w) hh (typeOf (.type "ValueError")) (.type "type") := Looks.of_pure (by kernel_rfl)
  refine wpAny_bind (L1.at ?_)
  rw [if_pos (by decide)]
  k_delta "plainIsInstance"
  refine wpAny_bind ?_
  refine wpAny_bind (wpAny_pure ?_)
  simp only [Bool.not_true, Bool.false_eq_true, if_false]
  refine wpAny_bind (L3.at ?_)
  simp only [if_true]
  exact wpAny_pure (wpAny_pure hq)
theorem isi_exc_base {Q : Value → Shared → Prop} {s : Shared} (X : K.In s.heap) (x : XC K C) (p : ∃ o, s.heap.get? a = some o ∧ o.cls = .ref C) (hq : Q (.bool true) s) :
    wpAny (model prog w) A (call (.builtin "isinstance") [.ref a, .type "ValueError"]) Q E s :=
  call_isinstance (S := fun _ R s => (K.In s.heap ∧ ∃ o, s.heap.get? a = some o ∧ o.cls = .ref C) ∧ R (.ok (.ret (.bool true))) s)
    (fun _ _ _ _ _ hs => isinstance_outer (isi_nested_base hs.1.1 x hs.1.2 hs.2) (by intro q; cases q)) ⟨⟨X, p⟩, hq⟩
theorem excMatches_sub {S : Addr} {Q : Bool → Shared → Prop} {s : Shared} (X : K.In s.heap) (x : XC K S) (e : mroIn K C (.ref S) = some true) (p : ∃ o, s.heap.get? a = some o ∧ o.cls = .ref C) (hq : Q true s) :
    wpAny (model prog w) A (excMatches (.ref a) (.ref S)) Q E s := by
  obtain ⟨hh, g, d, tt, os⟩ := s
  obtain ⟨o, hx, hc⟩ := p
  have L1 : Looks (model prog w) hh (isSubtype (.ref C) (.ref S)) true := looks_mroIn X e
  have L2 : Looks (model prog w) hh (isSubtype (.ref S) (.type "BaseException")) true := looks_mroIn X x.be
  have f := tc_notTuple
  have e6 := x.so
  have ty := x.ty
  unfold clsIn at e6
  split at e6
  · rename_i c0 dd cd sl ho2
    have hS : hh.get? S = some ⟨c0, dd, .cls cd, sl⟩ := X _ _ ho2
    have ty' : (K.lookup S).map (·.cls) = some (.type "type") := ty
    have hc0 : c0 = .type "type" := by rw [ho2] at ty'; simpa using ty'
    subst hc0
    unfold excMatches
    repeat (first | (with_reducible refine wpAny_loadPart_at hx ?_; rw [hc]) | with_reducible refine wpAny_loadPart_at hS ?_ | with_reducible refine L1.at ?_ | with_reducible refine L2.at ?_ | wp_step)
    exact hq
  · cases e6
end
end Mine
end

section
open PySem PySem.W PyProof.Rows PySem.Calls PyProof
set_option Elab.async false
set_option maxRecDepth 100000
set_option linter.unusedVariables false
namespace Mine
theorem dropName_cls (name : Str) (o : Obj) : (Obj.dropName name o).cls = o.cls := by
  obtain ⟨c, d, dt, sl⟩ := o
  cases dt <;> simp only [Obj.dropName] <;> (try split) <;> rfl
theorem dropName_free {name : Str} {o : Obj} {es ep} (hd : o.data = .dict es ep) : (Obj.dropName name o).isFreed = false := by
  obtain ⟨c, d, dt, sl⟩ := o
  subst hd
  simp only [Obj.dropName] <;> (try split) <;> rfl
open Sem in
theorem nsDel_cls {M : Model} {A : Around} {E : Value → Shared → Prop} {s : Shared} {a : Addr} {m : Str → Option Value} {name : Str} {o : Obj} {Q : Bool → Shared → Prop} (hn : s.heap.Ns a m) (ho : s.heap.get? a = some o)
    (h : ∀ h' v o', h'.Ns a (fun x => if x = name then v else m x) → Heap.SameBut a s.heap h' → h'.get? a = some o' → o'.cls = o.cls → Q (m name).isSome { s with heap := h' }) :
    wpAny M A (nsDel a name) Q E s := by
  intro Γ p hΓ
  have h1 := wpAny_nsDel_keeps (M := M) (A := A) (E := E) (name := name) (Q := fun b s' => b = (m name).isSome ∧ ∃ h' v, h'.Ns a (fun x => if x = name then v else m x) ∧ Heap.SameBut a s.heap h' ∧ s' = { s with heap := h' }) hn (fun h' v x y => ⟨rfl, h', v, x, y, rfl⟩) Γ p hΓ
  obtain ⟨o1, es, ep, ho1, hd, hk, hm⟩ := id hn
  obtain rfl : o1 = o := Option.some.inj (ho1.symm.trans ho)
  have hany : es.any (·.refKey) = false := by
    rw [Array.any_eq_false']; intro e he; obtain ⟨n, t, h⟩ := hk e he; simp [DictEntry.refKey, h]
  have hhas : nsHas name o1 = Pure.pure (es.any (·.key.isStr name)) := by
    rw [nsHas_eq]; unfold nsHasByArray; rw [hd]
    show (if (es.any fun x => x.key.isStr name) = true then _ else _) = _
    generalize (es.any fun x => x.key.isStr name) = b
    cases b <;> simp [hany]
  simp only [nsDel, wp_bind'] at h1 ⊢
  rw [wp_loadPart_of M Γ _ p s (o := o1) _ ho] at h1 ⊢
  rw [hhas] at h1 ⊢
  simp only [wp_pure'] at h1 ⊢
  generalize (es.any fun x => x.key.isStr name) = b at h1 ⊢
  cases b with
  | false =>
    simp only [Bool.false_eq_true, if_false, wp_pure'] at h1 ⊢
    obtain ⟨e, h', v, x, y, e'⟩ := h1
    have eh : s.heap = h' := congrArg Shared.heap e'
    subst eh
    rw [e]
    exact h _ v o1 x y ho rfl
  | true =>
    simp only [if_true, wp_bind', wp_cmd_updatePart, wp_pure'] at h1 ⊢
    obtain ⟨hs, e, h', v, x, y, e'⟩ := h1
    refine ⟨hs, ?_⟩
    have eh : s.heap.update a (Obj.dropName name) = h' := congrArg Shared.heap e'
    rw [e, eh]
    obtain ⟨o2, es2, ep2, ho2, hd2, r⟩ := id x
    refine h h' v o2 x y ho2 ?_
    have := Heap.get?_update_self (Obj.dropName name) ho (dropName_free hd)
    rw [eh, ho2] at this
    cases this
    exact dropName_cls ..
section
variable {B : Bs} {F : Fi} {X : Str → Prop} {n : Nat} {ρ : List (Option Sl)}
theorem unbindVar {env oa A} {s : Shared} {i : Nat} {x : Str} {pos : Pos} {E : Value → Shared → Prop} {v : Value} (R : Rp B F env oa ρ s) (hx : F.vars[i]? = some (x, .loc)) (hv : VarAt env s.heap x .loc v) :
    wpAny (model B.prog B.w) A (unbindBehindTheSuite env x pos) (fun _ s' => Rp B F env oa [] s' ∧ KpW B (Priv env) s s') E s := by
  have hk : env.scope.kind = .function := by rw [R.scope]; exact F.fn
  have hl : env.kindOf x = some .local := by unfold Env.kindOf; rw [R.scope]; exact (F.at hx).1
  obtain ⟨m, hn, hm⟩ := hv
  obtain ⟨oL, hoL⟩ : ∃ o, s.heap.get? env.locals = some o := by obtain ⟨o, _, _, ho, _⟩ := hn; exact ⟨o, ho⟩
  unfold unbindBehindTheSuite
  refine wpAny_onRaise ?_
  unfold unbindName
  refine wpAny_bind (wpAny_point (wpAny_bind ?_))
  unfold deleteName
  have hp : (env.scope.kind == .class || (env.scope.kind == .module && env.locals != env.globals)) = false := by rw [hk]; rfl
  simp only [hl, hp]
  rw [if_neg (by decide)]
  refine wpAny_bind (nsDel_cls hn hoL fun h' v' oL' hn' hs' hoL' hcL => ?_)
  simp only [hm, Option.isSome_some, Bool.not_true, Bool.false_eq_true, if_false]
  refine wpAny_pure (wpAny_point ?_)
  have hb : B.hB.get? env.locals = none := R.privNew _ (.inl rfl)
  have kw : KpW B (Priv env) s { s with heap := h' } := by
    refine ⟨fun b o e nw _ => (hs'.2 b (fun q => nw (.inl q))).trans e, fun b o e nw => ⟨o.slots, (hs'.2 b (fun q => nw (.inl q))).trans e⟩, fun b o vs k e c d => (hs'.2 b fun q => ?_).trans e, fun b o e => ?_, rfl, rfl⟩
    · subst q
      obtain ⟨o2, es, ep, ho2, hd2, _⟩ := hn
      rw [e] at ho2; cases ho2; rw [d] at hd2; cases hd2
    · by_cases q : b = env.locals
      · subst q
        rw [hoL] at e; cases e
        obtain ⟨o2, es, ep, ho2, hd2, _⟩ := hn'
        rw [hoL'] at ho2; cases ho2
        exact ⟨oL', hoL', (fun _ vs q => by rw [hd2] at q; cases q), fun _ => ⟨hcL, es, ep, hd2⟩⟩
      · exact ⟨o, (hs'.2 b q).trans e, fun x => x, fun x => ⟨rfl, x⟩⟩
  refine ⟨⟨fun b o e => (hs'.2 b (fun q => by subst q; rw [hb] at e; cases e)).trans (R.base b o e), R.scope, R.globals, R.builtins, ⟨_, hn'⟩, ?_, R.apart, R.locCell, ?_, R.privNew, fun i x k sl h1 h2 => by simp at h2, R.oinj, ?_⟩, kw⟩
  · intro j y k' hy hne
    obtain ⟨c, u, hc, hcell, hw⟩ := R.cells j y k' hy hne
    exact ⟨c, u, hc, hcell.sameBut hs' (R.locCell y c (mem_of_lookup hc)), hw⟩
  · intro y c hm
    obtain ⟨u, hu⟩ := R.cellsLive y c hm
    exact ⟨u, hu.sameBut hs' (R.locCell y c hm)⟩
  · intro j b h
    obtain ⟨h1, h2, o, ho⟩ := R.opriv j b h
    exact ⟨h1, h2, by obtain ⟨o', ho', _⟩ := kw.live b o ho; exact ⟨o', ho'⟩⟩
end
end Mine
end

section
open PySem PySem.W PyProof.Rows PySem.Calls PyProof
set_option Elab.async false
set_option maxRecDepth 100000
set_option linter.unusedVariables false
namespace Mine
section
variable {B : Bs} {F : Fi} {X : Str → Prop} {n : Nat} {ρ : List (Option Sl)}
noncomputable def Bs.loud (B : Bs) : Bs := { B with quiet := false }
theorem ContAt.loud {h : Heap} {a : Addr} {c : Cont} (x : ContAt B h a c) : ContAt B.loud h a c := by
  cases c <;> exact x
theorem ContAt.unloud {h : Heap} {a : Addr} {c : Cont} (x : ContAt B.loud h a c) : ContAt B h a c := by
  cases c <;> exact x
theorem Rp.loud {env oa} {s : Shared} (R : Rp B F env oa ρ s) : Rp B.loud F env oa ρ s :=
  ⟨R.base, R.scope, R.globals, R.builtins, R.ns, R.cells, R.apart, R.locCell, R.cellsLive, R.privNew, fun i x k sl h1 h2 => by
    have z := R.slots i x k sl h1 h2
    cases sl with
    | im d => exact z
    | fz c => (obtain ⟨a, h1, h2, h3⟩ := z; exact ⟨a, h1, h2.loud, h3⟩)
    | own c => (obtain ⟨a, h1, h2, h3⟩ := z; exact ⟨a, h1, h2.loud, h3⟩), R.oinj, R.opriv⟩
theorem Rp.unloud {env oa} {s : Shared} (R : Rp B.loud F env oa ρ s) : Rp B F env oa ρ s :=
  ⟨R.base, R.scope, R.globals, R.builtins, R.ns, R.cells, R.apart, R.locCell, R.cellsLive, R.privNew, fun i x k sl h1 h2 => by
    have z := R.slots i x k sl h1 h2
    cases sl with
    | im d => exact z
    | fz c => (obtain ⟨a, h1, h2, h3⟩ := z; exact ⟨a, h1, h2.unloud, h3⟩)
    | own c => (obtain ⟨a, h1, h2, h3⟩ := z; exact ⟨a, h1, h2.unloud, h3⟩), R.oinj, R.opriv⟩
theorem KpW.unloud {W} {s s' : Shared} (k : KpW B.loud W s s') : KpW B W s s' := ⟨k.keep, k.data, k.tups, k.live, k.gens, k.os⟩
theorem Ar.loud {A : Around} {s : Shared} (a : Ar B A n s) (v : Value) : Ar B.loud (A.mark (some v)) n s :=
  ⟨a.depth, a.units, (fun q => by cases q), a.frames⟩
theorem caught {env oa A} {s s1 : Shared} {e : Value} {X1 : Str → Prop} {hp rp cpos fp np cp : Pos} {c nm f : Str} {Q : Fl → List (Option Sl) → Prop} (i : Nat) (hx : F.vars[i]? = some (nm, .loc)) (hi : i < F.own) (hlen : i < ρ.length)
    (hkc : F.scope.names.lookup c = some .globalImplicit) (hkf : F.scope.names.lookup f = some .globalImplicit) {K : Frag} (X0 : K.In B.hB) {S : Addr} (hS : B.mg c = some (.ref S)) (xS : XC K S)
    (hX : ∀ c', X1 c' → ∃ C', B.mg c' = some (.ref C') ∧ mroIn K C' (.ref S) = some true) (wd : Str → D) (hf : ∀ c', X1 c' → Spec B.loud f NoX n [.ct (.exc c')] fun q => q = .im (wd c'))
    (hf0 : ∃ fa o fd, B.mg f = some (.ref fa) ∧ B.hB.get? fa = some o ∧ o.data = .func fd) (hw : ∀ c', X1 c' → Q (.ret (.im (wd c'))) [])
    (hdc : (c == ("__debug__" : Str)) = false) (hdf : (f == ("__debug__" : Str)) = false)
    (hd : Hd A env) (R : Rp B F env oa ρ s) (a : Ar B A n s) (x : EP B X1 s e s1) :
    wpAny (model B.prog B.w) A (noteFrame e env) (fun _ s₂ => wpAny (model B.prog B.w) A (setFlight e none) (fun _ s₃ => wpAny (model B.prog B.w) A
      (handleBy e env [.ExceptHandler (some (.Name c cp)) (some nm) [.Return (some (.Call (.Name f fp) [.Name nm np] [] cpos)) rp] hp]) (Po B F env oa s Q) (EPW B (FW env oa) X s) s₃) (EPW B (FW env oa) X s) s₂) (EPW B (FW env oa) X s) s1 := by
  obtain ⟨c', cv, ad, h1, h2, rfl, k1, fl⟩ := x
  obtain ⟨C', hC', hmro⟩ := hX c' h1
  rw [hC'] at h2; cases h2
  obtain ⟨⟨l, hl⟩, hfr⟩ := id hd
  have a1 := a.kp k1
  have fr : Fr1 B A env s1 := by
    obtain ⟨l', f1, f2, f3⟩ := a1.frames
    rw [hl] at f1; cases f1
    exact ⟨l, hl, f2, f3⟩
  refine wpAny_mono (noteFly hfr fr k1 fl) (fun _ s2 hz1 => ?_) fun _ _ x => x
  obtain ⟨k2, y2⟩ := hz1
  refine wpAny_mono (flightFly k2 y2) (fun _ s3 hz2 => ?_) fun _ _ x => x
  obtain ⟨k3, y3⟩ := hz2
  have hkfn : env.scope.kind = .function := by rw [R.scope]; exact F.fn
  have hxc : env.kindOf c = some .globalImplicit := by unfold Env.kindOf; rw [R.scope]; exact hkc
  refine wpAny_handleBy_cons (codeAny_handlers_test ?_) (by intro q; cases q)
  have R3 := R.kp k3
  refine Name_function_global hkfn hxc (loadGlobal_global (by rw [R.globals]; exact B.g.keeps R3.base) hS ?_) hdc
  refine excMatches_sub (K := K) (X0.keeps R3.base) xS hmro (by obtain ⟨_, o, _, ho, hc, _⟩ := y3; exact ⟨o, ho, hc⟩) ?_
  show codeAny _ _ _ _ _
  refine codeAny_handlers_suite_as (wpAny_mono (flightFly k3 y3) (fun _ s4 hz3 => ?_) fun _ _ x => x)
  obtain ⟨k4, y4⟩ := hz3
  obtain ⟨hn0, o4, vs4, ho4, hc4, hd4, _⟩ := id y4
  have vr : VR B env oa s s4 (.ref ad) (.ct .fr (.exc c')) := ⟨ad, rfl, ⟨o4, C', vs4, ho4, hC', hc4, hd4⟩, hn0⟩
  refine wpAny_mono (storeVar R k4 vr hx rfl (by decide) hi) (fun _ s5 hz4 => ?_) fun _ _ x => x
  obtain ⟨R5, k5, o5, _⟩ := hz4
  have k45 : KpW B (FW env oa) s s5 := (Kp.toW k4).trans (k5.mono fun _ x => .inl x) fun _ x => .inl x
  have a5 : Ar B A n s5 := a.kp k45
  -- the slot of the name
  have sw : SWs B.loud F NoX n (ρ.set i (some (.own (.exc c')))) [.Return (some (.Call (.Name f fp) [.Name nm np] [] cpos)) rp] fun fl ρ' => fl = .ret (.im (wd c')) ∧ ρ' = ρ.set i (some (.own (.exc c'))) := by
    refine SWs.cons (SW.ret (EW.call hkf (LW.cons (EW.name i hx (by rw [List.getElem?_set_self hlen]) (LW.nil ?_))) hf0 (hd := hdf)))
    refine (hf c' h1).mono (Nat.le_refl _) ?_ (fun _ x => x)
    rintro _ rfl
    exact ⟨rfl, rfl⟩
  refine wpAny_mono (sw.go env _ (A.mark (some (.ref ad))) s5 ⟨⟨l, hl⟩, hfr⟩ R5.loud (a5.loud _)) (fun fo s6 x6 => ?_) fun e' s6 x6 => ?_
  · obtain ⟨fl6, ρ6, oa6, h61, h62, R6, k6, o6⟩ := x6
    obtain ⟨rfl, rfl⟩ := h61
    cases fo with
    | ret v =>
      show wpAny _ A (do bindName env nm .none; unbindBehindTheSuite env nm hp) _ _ s6
      have k6' : KpW B (FW env oa) s s6 := k45.trans k6.unloud (FW.from o5)
      have R6' := R6.unloud
      refine wpAny_bind (wpAny_bindName (wpAny_mono (storeVar R6' (Kp.refl _) (r := .im .none) Im.none hx rfl (by decide) hi) (fun _ s7 hz5 => ?_) fun _ _ x => x))
      obtain ⟨R7, k7, o7, _⟩ := hz5
      obtain ⟨v7, hv7, _⟩ := R7.slots i nm .loc (.im .none) hx (by rw [List.getElem?_set_self (by simpa using hlen)])
      refine wpAny_mono (unbindVar R7 hx hv7) (fun _ s8 hz6 => ?_) fun _ _ x => x
      obtain ⟨R8, k8⟩ := hz6
      have k7' : KpW B (FW env oa) s s7 := k6'.trans (k7.mono fun _ x => .inl x) fun _ x => .inl x
      have k8' : KpW B (FW env oa) s s8 := k7'.trans (k8.mono fun _ x => .inl x) fun _ x => .inl x
      refine ⟨.ret (.im (wd c')), [], _, hw c' h1, ?_, R8, k8', (o5.trans k45 o6).trans k6' o7⟩
      exact Im.grow k8.tups (Im.grow k7.tups h62)
    | _ => exact h62.elim
  · obtain ⟨_, _, _, q, _⟩ := x6; exact q.elim

theorem SW.tryRet {X1 : Str → Prop} {e : Expr} {p1 pos hp rp cpos fp np cp : Pos} {c nm f : Str} {Q : Fl → List (Option Sl) → Prop} (i : Nat) (hx : F.vars[i]? = some (nm, .loc)) (hi : i < F.own) (hlen : i < ρ.length)
    (hkc : F.scope.names.lookup c = some .globalImplicit) (hkf : F.scope.names.lookup f = some .globalImplicit) {K : Frag} (X0 : K.In B.hB) {S : Addr} (hS : B.mg c = some (.ref S)) (xS : XC K S)
    (hX : ∀ c', X1 c' → ∃ C', B.mg c' = some (.ref C') ∧ mroIn K C' (.ref S) = some true) (wd : Str → D) (hf : ∀ c', X1 c' → Spec B.loud f NoX n [.ct (.exc c')] fun q => q = .im (wd c'))
    (hf0 : ∃ fa o fd, B.mg f = some (.ref fa) ∧ B.hB.get? fa = some o ∧ o.data = .func fd) (hw : ∀ c', X1 c' → Q (.ret (.im (wd c'))) [])
    (h : EW B F X1 n ρ e fun r => Q (.ret r) ρ) (hdc : (c == ("__debug__" : Str)) = false := by decide) (hdf : (f == ("__debug__" : Str)) = false := by decide) :
    SW B F X n ρ (.Try [.Return (some e) p1] [.ExceptHandler (some (.Name c cp)) (some nm) [.Return (some (.Call (.Name f fp) [.Name nm np] [] cpos)) rp] hp] [] [] pos) Q := .mk fun env oa A s hd R a =>
  wpAny_Try_except (wpAny_execs_cons (wpAny_Return_some (wpAny_mono (h.go env oa A s R a) (fun v s' hz7 => by obtain ⟨r, q, k, x⟩ := hz7; exact ⟨_, ρ, oa, q, x, R.kp k, k.toW, OwnFrom.refl _ _⟩)
    fun e s1 x => caught i hx hi hlen hkc hkf X0 hS xS hX wd hf hf0 hw hdc hdf hd R a x)))
theorem SW.tryExpr {X1 : Str → Prop} {e : Expr} {p1 pos hp rp cpos fp np cp : Pos} {c nm f : Str} {Q : Fl → List (Option Sl) → Prop} (i : Nat) (hx : F.vars[i]? = some (nm, .loc)) (hi : i < F.own) (hlen : i < ρ.length)
    (hkc : F.scope.names.lookup c = some .globalImplicit) (hkf : F.scope.names.lookup f = some .globalImplicit) {K : Frag} (X0 : K.In B.hB) {S : Addr} (hS : B.mg c = some (.ref S)) (xS : XC K S)
    (hX : ∀ c', X1 c' → ∃ C', B.mg c' = some (.ref C') ∧ mroIn K C' (.ref S) = some true) (wd : Str → D) (hf : ∀ c', X1 c' → Spec B.loud f NoX n [.ct (.exc c')] fun q => q = .im (wd c'))
    (hf0 : ∃ fa o fd, B.mg f = some (.ref fa) ∧ B.hB.get? fa = some o ∧ o.data = .func fd) (hw : ∀ c', X1 c' → Q (.ret (.im (wd c'))) [])
    (h : EW B F X1 n ρ e fun r => Q .next ρ) (hdc : (c == ("__debug__" : Str)) = false := by decide) (hdf : (f == ("__debug__" : Str)) = false := by decide)
    (hs : ∀ env, swapsWith e none p1.line env = pure false := by intro _; rfl) :
    SW B F X n ρ (.Try [.Expr e p1] [.ExceptHandler (some (.Name c cp)) (some nm) [.Return (some (.Call (.Name f fp) [.Name nm np] [] cpos)) rp] hp] [] [] pos) Q := .mk fun env oa A s hd R a =>
  wpAny_Try_except (wpAny_execs_cons (wpAny_Expr_any (wpAny_mono (h.go env oa A s R a) (fun v s' hz8 => by obtain ⟨r, q, k, x⟩ := hz8; exact wpAny_execs_nil (wpAny_execs_nil ⟨_, ρ, oa, q, trivial, R.kp k, k.toW, OwnFrom.refl _ _⟩))
    fun e s1 x => caught i hx hi hlen hkc hkf X0 hS xS hX wd hf hf0 hw hdc hdf hd R a x) (by unfold interactive; rw [R.scope, F.fn]; rfl) (hs env)))
end
end Mine
end

section
open PySem PySem.W PyProof.Rows PySem.Calls PyProof PySem.SeqAt
set_option Elab.async false
set_option maxRecDepth 100000
set_option linter.unusedVariables false
namespace Mine
section
variable {B : Bs} {F : Fi} {X : Str → Prop} {n : Nat} {ρ : List (Option Sl)}
noncomputable def IsiC (B : Bs) (n : Nat) (x : AV) (C : Addr) (r : Bool) : Prop :=
  ∀ env oa A s0 s v (E : Value → Shared → Prop), Bas B s → Ar B A n s → VR B env oa s0 s v x → wpAny (model B.prog B.w) A (PySem.call (.builtin "isinstance") [v, .ref C]) (fun v s' => v = .bool r ∧ Kp B s s') E s
theorem EW.isiC {p1 p2 : Pos} {e : Expr} {c : Str} {pos : Pos} {Q : AV → Prop} {C : Addr} (hk : F.scope.names.lookup (Str.ofString "isinstance") = some .globalImplicit) (hm : B.mg (Str.ofString "isinstance") = none)
    (hk2 : F.scope.names.lookup c = some .globalImplicit) (hC : B.mg c = some (.ref C))
    (h : EW B F X n ρ e fun x => ∃ r, IsiC B n x C r ∧ Q (.im (.bool r)))
    (he : ∀ env, starEach (e :: [.Name c p2]) env = (false, eval e env) :: starEach [.Name c p2] env := by intro _; rfl) (hd2 : (c == ("__debug__" : Str)) = false := by decide) :
    EW B F X n ρ (.Call (.Name "isinstance" p1) [e, .Name c p2] [] pos) Q := by
  refine .mk ?_
  intro env oa A s R a
  refine wpAny_Call_ofName (loadBuiltin R hk hm bb_isinstance ?_)
  refine callWith_builtin1 ?_ (he env)
  refine wpAny_items_cons (h.run R a (Kp.refl _) fun v s1 r hz1 k1 x1 => ?_) (he env)
  obtain ⟨b, hi, q⟩ := hz1
  have R1 := R.kp k1
  have hkf : env.scope.kind = .function := by rw [R.scope]; exact F.fn
  have hx : env.kindOf c = some .globalImplicit := by unfold Env.kindOf; rw [R.scope]; exact hk2
  refine wpAny_items_cons (Name_function_global hkf hx (loadGlobal_global (by rw [R.globals]; exact B.g.keeps R1.base) hC (wpAny_items_nil ?_)) hd2)
  exact wpAny_mono (hi env oa A s s1 v _ R1.base (a.kp k1) x1) (fun v s2 hz2 => by obtain ⟨e, k2⟩ := hz2; subst e; exact ⟨_, q, k1.trans k2, Im.bool _⟩) fun _ _ x => x
theorem VR.exc {env oa} {s s' : Shared} {v : Value} {m : Md} {c : Str} {C : Addr} (x : VR B env oa s s' v (.ct m (.exc c))) (hC : B.mg c = some (.ref C)) : ∃ a, v = .ref a ∧ ∃ o, s'.heap.get? a = some o ∧ o.cls = .ref C := by
  obtain ⟨a, rfl, o, C', vs, ho, hm, hc, hd⟩ := x.cont
  rw [hC] at hm; cases hm
  exact ⟨a, rfl, o, ho, hc⟩
theorem IsiC.self {m : Md} {c : Str} {C : Addr} {K : Frag} (X0 : K.In B.hB) (hC : B.mg c = some (.ref C)) : IsiC B n (.ct m (.exc c)) C true := fun env oa A s0 s v E b a x => by
  obtain ⟨p, rfl, h⟩ := x.exc hC
  exact isi_exc_self (K := K) (X0.keeps b) h ⟨rfl, Kp.refl _⟩
theorem IsiC.not {m : Md} {c : Str} {C D : Addr} {K : Frag} (X0 : K.In B.hB) (hC : B.mg c = some (.ref C)) (x0 : XC K C) (hn : XNot K C D = true) : IsiC B n (.ct m (.exc c)) D false := fun env oa A s0 s v E b a x => by
  obtain ⟨p, rfl, h⟩ := x.exc hC
  exact isi_exc_not (K := K) (X0.keeps b) x0 hn h ⟨rfl, Kp.toks⟩
theorem IsiS.excV {m : Md} {c : Str} {C : Addr} {K : Frag} (X0 : K.In B.hB) (hC : B.mg c = some (.ref C)) (x0 : XC K C) : IsiS B n (.ct m (.exc c)) "ValueError" true := fun env oa A s0 s v E b a x => by
  obtain ⟨p, rfl, h⟩ := x.exc hC
  exact isi_exc_base (K := K) (X0.keeps b) x0 h ⟨rfl, Kp.refl _⟩
theorem bb_ValueError : bootBuiltins "ValueError" = some (.type "ValueError") := by decide +kernel

theorem StrsAre.values : ∀ {vs : List Value} {ss : List Str}, StrsAre vs ss → ∃ l : List (Str × Tok), vs = strValues l ∧ l.map (·.1) = ss
  | _, _, .nil => ⟨[], rfl, rfl⟩
  | _, _, .cons y t r => by obtain ⟨l, e1, e2⟩ := StrsAre.values r; exact ⟨(y, t) :: l, by rw [e1]; rfl, by rw [← e2]; rfl⟩
theorem EW.join {o e : Expr} {apos pos : Pos} {Q : AV → Prop}
    (h : EW B F X n ρ o fun x => ∃ sep, x = .im (.str sep) ∧ EW B F X n ρ e fun y => ∃ m ss, y = .ct m (.lst (ss.map .str)) ∧ JoinOk sep ss = true ∧ Q (.im (.str (Txt.join sep ss))))
    (hline : (apos.endLine == pos.line) = true := by rfl) (hb : ∀ env, attributeBase o "join" env (eval o env) = eval o env := by intro _; rfl)
    (htr : ∀ env, backTo pos (starEach [e] env) = [(false, eval e env)] := by intro _; rfl) :
    EW B F X n ρ (.Call (.Attribute o "join" apos) [e] [] pos) Q := by
  refine .mk ?_
  intro env oa A s R a
  refine wpAny_Call_method_lateS (hb env) (by rw [htr]; rfl) hline (h.run R a (Kp.refl _) fun v0 s0 r hz3 k0 x0 => ?_)
  obtain ⟨sep, hr, he⟩ := hz3
  subst hr
  obtain ⟨t, rfl⟩ := x0.str
  rw [htr]
  refine SB.join (he.run (R.kp k0) (a.kp k0) k0 fun v1 s1 r1 hz4 k1 x1 => ?_)
  obtain ⟨m, ss, hr1, hok, q⟩ := hz4
  subst hr1
  obtain ⟨l, vs, rfl, h1, h2⟩ := x1.lst
  obtain ⟨ll, e1, e2⟩ := StrsAre.values h2.strs
  refine ⟨l, ll, rfl, by rw [← e1]; simpa using h1, ss, e2, hok, fun t' k => ⟨_, q, (k0.trans k1).trans Kp.toks, Im.str _ _⟩⟩

theorem BuiS.dictD {m : Md} {l : List (Str × D)} (h : l.length ≤ sizeLine) : BuiS B n (.type "dict") [.ct m (.dct l)] (.ct .fr (.dct l)) := .one fun env oa A s0 s v E b a x => by
  obtain ⟨d, kvs, rfl, h0, h1, h2⟩ := x.dct
  refine kt_call_dict (knd := strKind B.prog B.w) h0 h1 (by rw [h2.length]; exact h) fun h' hd hs => ?_
  have k : Kp B s { s with heap := h' } := Kp.of (t := s.toks) fun b o q => (hs.2 b (Nat.ne_of_lt (Heap.lt_size q))).trans (Heap.get?_push_of_some _ q)
  refine ⟨k, _, rfl, ⟨?_, kvs, hd, h2.grow k.tups⟩, fresh_size s⟩
  have hlt : sysModules < s.heap.objs.size := by
    obtain ⟨o', es', ep', ho', _⟩ := B.g
    have h3 := Heap.lt_size (b _ _ ho')
    exact Nat.lt_of_le_of_lt (by decide) h3
  exact beq_eq_false_iff_ne.mpr (fun q => by rw [q] at hlt; exact Nat.lt_irrefl _ hlt)
theorem BuiS.intB (b : Bool) : BuiS B n (.type "int") [.im (.bool b)] (.im (.int (if b then 1 else 0))) := .one fun env oa A s0 s v E bs a x => by
  rw [x.bool]
  exact call_int_bool ⟨Kp.toks, Im.int _ _⟩
theorem CmpS.leS (a b : Str) : CmpS B n .LtE (.im (.str a)) (.im (.str b)) (sle a b) := fun env oa A s0 s vx vy E bs ar x y => by
  obtain ⟨t, rfl⟩ := x.str; obtain ⟨u, rfl⟩ := y.str
  refine PySem.P.le_str ⟨?_, Kp.refl _⟩
  unfold sle
  rw [ltCps_eq]
theorem CmpS.notInStrs {m : Md} {is : List Str} {i : Str} : CmpS B n .NotIn (.im (.str i)) (.ct m (.lst (is.map .str))) (!is.contains i) := fun env oa A s0 s vx vy E b a x y => by
  obtain ⟨l, vs, rfl, h1, h2⟩ := y.lst
  obtain ⟨t, rfl⟩ := x.str
  have hs := h2.strs
  refine SeqInW.notIn_listW (fun v => match v with | .str j _ => j.cps.toList == i.cps.toList | _ => false) (fun y hy => ?_) h1 ⟨?_, Kp.refl _⟩
  · have hy : y ∈ vs.toList := by simpa using hy
    have : ∀ {vs : List Value} {ss : List Str}, StrsAre vs ss → y ∈ vs → ∃ j t, y = .str j t := by
      intro vs ss h; induction h with
      | nil => intro q; cases q
      | cons y' t r ih =>
        intro q
        rcases List.mem_cons.mp q with e | q
        · exact ⟨_, _, e⟩
        · exact ih q
    obtain ⟨j, t', rfl⟩ := this hs hy
    exact PySem.SeqRoads2.EqGives.str _ _ _ _
  · rw [← Array.any_toList]
    congr 2
    have : ∀ {vs : List Value} {ss : List Str}, StrsAre vs ss → vs.any (fun v => match v with | .str j _ => j.cps.toList == i.cps.toList | _ => false) = ss.contains i := by
      intro vs ss h; induction h with
      | nil => rfl
      | cons y' t r ih =>
        rw [List.any_cons, ih, List.contains_cons]
        congr 1
        rw [Bool.eq_iff_iff]; simp only [beq_iff_eq]
        constructor
        · intro q; cases i; cases y'; simp at q; simp [q]
        · intro q; rw [q]
    exact this hs
theorem KVs.keys {h : Heap} : ∀ {kvs l}, KVs h kvs l → kvs.map (·.1) = l.map (·.1)
  | _, _, .nil => rfl
  | _, _, .cons _ r => by simp [r.keys]
theorem dAt_mem {l : List (Str × D)} (nd : (l.map (·.1)).Nodup) {k : Str} {d : D} (h : (k, d) ∈ l) : dAt l k = some d := by
  induction l with
  | nil => cases h
  | cons p l ih =>
    rw [List.map_cons, List.nodup_cons] at nd
    unfold dAt
    rw [List.find?_cons]
    rcases List.mem_cons.mp h with e | e
    · subst e; simp
    · have : ¬ p.1 = k := fun q => nd.1 (by rw [q]; exact List.mem_map.mpr ⟨_, e, rfl⟩)
      simp only [this, decide_false]
      exact ih nd.2 e
theorem hitsSame {A : Around} {s : Shared} {kb : List (Str × Value)} {l : List (Str × D)} (nd : (l.map (·.1)).Nodup) (hb : KVs s.heap kb l) (hint : ∀ kv ∈ l, ∃ i, kv.2 = D.int i) :
    ∀ {ka la}, KVs s.heap ka la → (∀ p ∈ la, p ∈ l) → KeqHits A s kb ka true
  := by
  intro ka la k
  induction k with
  | nil => intro _; exact .nil
  | cons hv r ih =>
    intro hs
    have hm := hs _ List.mem_cons_self
    obtain ⟨y, hy, hyd⟩ := hb.at.2 _ (dAt_mem nd hm)
    obtain ⟨i, hi⟩ := hint _ hm
    simp only at hi
    subst hi
    cases hv with
    | int _ t => cases hyd with
      | int _ u =>
        have := KeqHits.hit hy (EqAt.int_int (A := A) (s := s) i t i u) (ih fun p hp => hs p (List.mem_cons_of_mem _ hp))
        simpa using this
theorem CmpS.neDsame {m m' : Md} {l : List (Str × D)} (hint : ∀ kv ∈ l, ∃ i, kv.2 = D.int i) : CmpS B n .NotEq (.ct m (.dct l)) (.ct m' (.dct l)) false := fun env oa A s0 s vx vy E b a x y => by
  obtain ⟨p, ka, rfl, h0, h1, h2⟩ := x.dct
  obtain ⟨q, kb, rfl, g0, g1, g2⟩ := y.dct
  have nd : (l.map (·.1)).Nodup := by rw [← h2.keys]; (obtain ⟨_, _, _, _, _, _, _, _, hn⟩ := h1; exact hn)
  refine keq_ne (knd := strKind B.prog B.w) (r := true) h0 g0 h1 g1 a.un (fun _ => hitsSame nd g2 hint h2 fun p hp => hp) ⟨?_, Kp.refl _⟩
  rw [h2.length, g2.length]; simp
theorem SW.dpop {x : Str} {p apos pos spos : Pos} {e : Expr} {Q : Fl → List (Option Sl) → Prop} {l : List (Str × D)} {mm : Option Addr} (i : Nat) {kd : Kd} (hx : F.vars[i]? = some (x, kd)) (hs : ρ[i]? = some (some (.own (.dct l) mm)))
    (h : EW B F X n ρ e fun r => ∃ k, r = .im (.str k) ∧ (dAt l k).isSome = true ∧ l.length ≤ sizeLine ∧ Q .next (ρ.set i (some (.own (.dct (dOut l k)) mm))))
    (hline : (apos.endLine == pos.line) = true := by rfl) (htr : ∀ env, backTo pos (starEach [e] env) = [(false, eval e env)] := by intro _; rfl) :
    SW B F X n ρ (.Expr (.Call (.Attribute (.Name x p) "pop" apos) [e] [] pos) spos) Q := by
  refine .mk ?_
  intro env oa A s hd R a
  refine wpAny_Expr_any ?_ (by unfold interactive; rw [R.scope, F.fn]; rfl) rfl
  refine wpAny_Call_method1_late rfl hline (htr env) ?_
  obtain ⟨b, h1, h2, h3, _⟩ := R.slots i x kd _ hx hs
  refine loadVar R hx h1 ?_
  obtain ⟨h0, kvs, hD, hkv⟩ := id h2
  refine ⟨"dict", "dict.pop", PySem.F.plainAttrs_dict, PySem.F.slot_dict_pop, PySem.F.type_dict_pop, hD.typeIs, hD.mapOf.noDict, ?_⟩
  refine method1_meetsIn PySem.F.slot_dict_pop PySem.F.entry_dict_pop (wpAny_mono (h.go env oa A s R a) (fun v s1 hz5 => ?_) fun _ _ x => x.toW)
  obtain ⟨r, ⟨k, hr, hsome, hsz, q⟩, k1, x1⟩ := hz5
  subst hr
  obtain ⟨t, rfl⟩ := x1.str
  have R1 := R.kp k1
  obtain ⟨b', g1, g2, g3, _⟩ := R1.slots i x kd _ hx hs
  rw [h3] at g3; cases g3
  obtain ⟨g0, kvs', gD, gkv⟩ := id g2
  have hl : kvs'.length = l.length := gkv.length
  obtain ⟨vv, hvv⟩ : ∃ vv, valueAt kvs' k = some vv := Option.isSome_iff_exists.mp (by rw [gkv.some]; exact hsome)
  refine ⟨gD.typeIs, PySem.F.args_dict_pop_2 _ _, _, meets_dict_pop_there (knd := strKind B.prog B.w) (d := b) (k := k) (key := .str k t) (strKind_is _ _ _ _) [] (.inl rfl) rfl, kvs', vv, gD, by omega, hvv, fun h' hm' hs' => ?_⟩
  have hg : Grow s1.heap h' := (R1.upd h3 hs' (by obtain ⟨o', _, _, ho', _⟩ := hm'; exact ⟨o', ho'⟩) ⟨_, g2⟩ (t := 0) [] (fun _ _ _ _ _ h => by simp at h)).2
  have z := ownTurn (t := s1.toks + 1) R1 hs h3 g2 hs' (c' := .dct (dOut l k)) ⟨g0, _, hm', (gkv.out (k := k)).grow hg⟩ trivial
  exact ⟨.next, _, _, q, trivial, z.1, (Kp.toW k1).trans z.2 fun _ x => .inl x, OwnFrom.refl _ _⟩
end
end Mine
end

section
open PySem PySem.W PyProof.Rows PySem.Calls PyProof
set_option Elab.async false
set_option maxRecDepth 100000
namespace Mine
theorem mgOf {K : Frag} {h : Heap} {mg : Str → Option Value} {x : Str} {r : Option Value} (X : K.In h) (g : h.Ns mainGlobals mg) (e : nsIn K mainGlobals x = some r) : mg x = r := by
  obtain ⟨o, es, ep, ho, hd, hk, hf⟩ := g
  unfold nsIn at e
  split at e
  · rename_i c0 dd es' n' sl hl
    have := X _ _ hl
    rw [ho] at this; cases this
    cases hd
    rw [← hf x]
    unfold nsFind findBy
    rw [← Array.find?_toList]
    split at e
    · rename_i en he; cases e; rw [he]; rfl
    · rename_i he
      rw [he]
      split at e
      · cases e
      · cases e; rfl
  · cases e
theorem FnAt.loud {B : Bs} {f names body scope} (h : FnAt B f names body scope) : FnAt B.loud f names body scope := ⟨h.ex, h.co, h.gen, h.cells⟩
end Mine
end

section
open PySem PySem.W PyProof.Rows PySem.Calls PyProof
set_option Elab.async false
set_option maxRecDepth 100000
set_option linter.unusedVariables false
namespace Mine
section
variable {B : Bs} {F : Fi} {X : Str → Prop} {n : Nat} {ρ : List (Option Sl)}
theorem SWs.freeze {sts : List Stmt} {Q : Fl → List (Option Sl) → Prop} (i : Nat) {c : Cont} {mm : Option Addr} (hs : ρ[i]? = some (some (.own c mm))) (h : SWs B F X n (ρ.set i (some (.fz c))) sts Q) : SWs B F X n ρ sts Q := by
  refine .mk ?_
  intro env oa A s hd R a
  have hlt : i < ρ.length := (List.getElem?_eq_some_iff.mp hs).1
  have sub : ∀ j b, (if j = i then none else oa j) = some b → j ≠ i ∧ oa j = some b := fun j b q => by
    by_cases e : j = i
    · rw [if_pos e] at q; cases q
    · rw [if_neg e] at q; exact ⟨e, q⟩
  have fw : ∀ b, FW env (fun j => if j = i then none else oa j) b → FW env oa b := fun b q => by
    rcases q with q | ⟨j, q⟩
    · exact .inl q
    · exact .inr ⟨j, (sub j b q).2⟩
  have R' : Rp B F env (fun j => if j = i then none else oa j) (ρ.set i (some (.fz c))) s := by
    refine ⟨R.base, R.scope, R.globals, R.builtins, R.ns, R.cells, R.apart, R.locCell, R.cellsLive, R.privNew, fun j x k sl h1 h2 => ?_, fun j k b q1 q2 => R.oinj j k b (sub j b q1).2 (sub k b q2).2, fun j b q => R.opriv j b (sub j b q).2⟩
    by_cases e : j = i
    · subst e
      rw [List.getElem?_set_self hlt] at h2; cases h2
      obtain ⟨b, g1, g2, g3, _⟩ := R.slots j x k _ h1 hs
      refine ⟨b, g1, g2, fun q => ?_⟩
      rcases q with q | ⟨j', q⟩
      · exact (R.opriv j b g3).1 q
      · obtain ⟨q1, q2⟩ := sub j' b q
        exact q1 (R.oinj j' j b q2 g3)
    · rw [List.getElem?_set_ne (Ne.symm e)] at h2
      have z := R.slots j x k sl h1 h2
      cases sl with
      | im d => exact z
      | fz c => (obtain ⟨b, g1, g2, g3⟩ := z; exact ⟨b, g1, g2, fun q => g3 (fw b q)⟩)
      | own c => (obtain ⟨b, g1, g2, g3, g4⟩ := z; exact ⟨b, g1, g2, (if_neg e).trans g3, g4⟩)
  refine wpAny_mono (h.go env _ A s hd R' a) (fun f s' x => ?_) fun e s' x => ?_
  · obtain ⟨fl, ρ', oa', h1, h2, h3, h4, h5⟩ := x
    exact ⟨fl, ρ', oa', h1, h2, h3, h4.mono fw, fun j b q => (h5 j b q).imp (fun hz1 => by obtain ⟨j', q'⟩ := hz1; exact ⟨j', (sub j' b q').2⟩) (fun x => x)⟩
  · obtain ⟨c, cv, ad, h1, h2, h3, h4, h5⟩ := x
    exact ⟨c, cv, ad, h1, h2, h3, h4.mono fw, h5⟩
end
end Mine
end

section
open PySem PySem.W PyProof.Rows PySem.Calls PyProof
set_option Elab.async false
set_option maxRecDepth 100000
set_option linter.unusedVariables false
namespace Mine
section
variable {B : Bs} {F : Fi} {X : Str → Prop} {n : Nat} {ρ : List (Option Sl)}
noncomputable def SpecM (B : Bs) (f : Str) (n : Nat) (ags : List Ag) (l : List (Str × D)) (Q : List (Str × D) → Prop) : Prop :=
  ∃ fa o fd, B.mg f = some (.ref fa) ∧ B.hB.get? fa = some o ∧ o.data = .func fd ∧
    ∀ A s vs a, Bas B s → Ar B A n s → vs.length = ags.length → (∀ (i : Nat) v g, vs[i]? = some v → ags[i]? = some g → AgR B s.heap v g) → ContAt B s.heap a (.dct l) → B.hB.get? a = none →
      codeAny (model B.prog B.w) A (.call (.ref fa) ⟨vs ++ [.ref a], []⟩) (fun r s' => match r with
        | .ok (.ret _) => ∃ l', Q l' ∧ KpW B (fun b => b = a) s s' ∧ ContAt B s'.heap a (.dct l')
        | _ => False) s
theorem SpecM.mono {f ags l} {m : Nat} {Q Q' : List (Str × D) → Prop} (h : SpecM B f n ags l Q) (hm : n ≤ m) (q : ∀ r, Q r → Q' r) : SpecM B f m ags l Q' := by
  obtain ⟨fa, o, fd, h1, h2, h3, h4⟩ := h
  refine ⟨fa, o, fd, h1, h2, h3, fun A s vs a b ar hl hv hc hn => codeAny_mono (h4 A s vs a b (ar.le hm) hl hv hc hn) fun r s' x => ?_⟩
  cases r with
  | error e => exact x
  | ok r => cases r with
    | ret v => obtain ⟨r, h5, h6⟩ := x; exact ⟨r, q r h5, h6⟩
    | next => exact x
    | brk => exact x
    | cont => exact x
noncomputable def Ag.plain : Ag → Bool
  | .im _ => true
  | .ct (.lst _) => true
  | _ => false
noncomputable def startM (F : Fi) (ags : List Ag) (sl : Sl) : List (Option Sl) := (ags.map fun g => some g.sl) ++ some sl :: List.replicate (F.vars.length - ags.length - 1) none
theorem ContAt.lst_dct {h : Heap} {a : Addr} {l : List D} {m : List (Str × D)} (x : ContAt B h a (.lst l)) (y : ContAt B h a (.dct m)) : False := by
  obtain ⟨o, vs, n, h1, h2, h3, _⟩ := x
  obtain ⟨_, kvs, ⟨o', es, ep, g1, g2, g3, _⟩, _⟩ := y
  rw [h1] at g1; cases g1; rw [h3] at g3; cases g3
theorem SpecM.of_body {f : Str} {names : List Str} {body : List Stmt} {ags : List Ag} {l : List (Str × D)} {Q : List (Str × D) → Prop}
    (hf : FnAt B f names body F.scope) (hv : (F.vars.map (·.1)).take names.length = names) (hnf : (F.vars.all fun x => decide (x.2 ≠ .fre)) = true) (hl : ags.length + 1 = names.length) (hap : ags.all Ag.plain = true)
    (h : ∀ a, SWs B F NoX n (startM F ags (.own (.dct l) (some a))) body fun fl ρ' => fl = .next ∧ ∃ l', ρ'[ags.length]? = some (some (.own (.dct l') (some a))) ∧ Q l') : SpecM B f (n + 1) ags l Q := by
  obtain ⟨fa, o, fd, h1, h2, h3, hb, hs, hg, hc, hbu, hcd, hbind⟩ := hf.ex
  refine ⟨fa, o, fd, h1, h2, h3, fun A s vs a bas ar hlen hargs hca hna => ?_⟩
  obtain ⟨oa, hoa⟩ := hca.exists
  have own : ∀ i b, (if i = ags.length then some a else none) = some b → i = ags.length ∧ b = a := fun i b q => by
    by_cases e : i = ags.length
    · rw [if_pos e] at q; cases q; exact ⟨e, rfl⟩
    · rw [if_neg e] at q; cases q
  have kp : ∀ {s'}, KpW B (fun b => ∃ i : Nat, (if i = ags.length then some a else none) = some b) s s' → KpW B (fun b => b = a) s s' := fun k => k.mono fun b q => by obtain ⟨i, q⟩ := q; exact (own i b q).2
  refine bodyCore (oa0 := fun i => if i = ags.length then some a else none) h2 h3 hb hs hg hc hbu hcd hbind hf.co hf.gen hf.cells hv hnf bas ar (by simp; omega) (fun i b q => ?_) (fun i j b q1 q2 => (own i b q1).1.trans (own j b q2).1.symm) (fun env h' g01 kk privS hvar j y k sl hj hρ => ?_) (h a)
    (fun env oa' ρ' fl v s' q1 q3 k q5 hr => ?_) (fun _ => ⟨(fun q => by cases q.1), (fun q => by cases q.1)⟩) (fun e s' x => ?_)
  · rw [(own i b q).2]; exact ⟨hna, oa, hoa⟩
  · have npriv : ∀ {b c}, ContAt B s.heap b c → ¬ Priv env b := fun {b c} hb q => by obtain ⟨o, ho⟩ := hb.exists; rw [privS b q] at ho; cases ho
    unfold startM at hρ
    rcases Nat.lt_trichotomy j ags.length with q | q | q
    · rw [List.getElem?_append_left (by simpa using q), List.getElem?_map] at hρ
      obtain ⟨g, hg'⟩ : ∃ g, ags[j]? = some g := ⟨ags[j], List.getElem?_eq_getElem q⟩
      rw [hg'] at hρ; cases hρ
      obtain ⟨v, hvj⟩ : ∃ v, vs[j]? = some v := ⟨vs[j]'(by omega), List.getElem?_eq_getElem (by omega)⟩
      have hvj' : (vs ++ [Value.ref a])[j]? = some v := by rw [List.getElem?_append_left (by omega)]; exact hvj
      have har := hargs j v g hvj hg'
      have hpl := List.all_eq_true.mp hap g (List.mem_of_getElem? hg')
      cases g with
      | im d => exact ⟨v, hvar j y k v hj hvj', Im.grow g01 har⟩
      | ct c =>
        obtain ⟨b, rfl, hcb⟩ := har
        refine ⟨b, hvar j y k _ hj hvj', hcb.of_same (fun o e _ => kk _ _ e) g01, ?_⟩
        rintro (q' | ⟨i, q'⟩)
        · exact npriv hcb q'
        · have := (own i b q').2
          subst this
          cases c with
          | lst l => exact hcb.lst_dct hca
          | _ => cases hpl
    · subst q
      rw [List.getElem?_append_right (by simp)] at hρ
      simp at hρ
      subst hρ
      have hvj' : (vs ++ [Value.ref a])[ags.length]? = some (.ref a) := by rw [← hlen, List.getElem?_append_right (Nat.le_refl _)]; simp
      exact ⟨a, hvar _ y k _ hj hvj', hca.of_same (fun o e _ => kk _ _ e) g01, if_pos rfl, fun b e => by cases e; rfl⟩
    · rw [List.getElem?_append_right (by simp; omega), List.length_map, show j - ags.length = (j - ags.length - 1) + 1 by omega, List.getElem?_cons_succ, List.getElem?_replicate] at hρ
      split at hρ <;> cases hρ
  · obtain ⟨rfl, l', e1, e2⟩ := q1
    have hlt : ags.length < F.vars.length := by
      have := congrArg List.length hv
      rw [List.length_take, List.length_map] at this
      omega
    obtain ⟨b, g1, g2, g3, g4⟩ := q3.slots ags.length F.vars[ags.length].1 F.vars[ags.length].2 _ (by rw [List.getElem?_eq_getElem hlt]) e1
    have := g4 a rfl
    subst this
    exact ⟨l', e2, kp k, g2⟩
  · obtain ⟨c, _, _, q, _⟩ := x; exact q

theorem ContAt.notCell {h : Heap} {a : Addr} {c : Cont} {v} (x : ContAt B h a c) (y : h.IsCell a v) : False := by
  obtain ⟨oc, h1, h2⟩ := y
  cases c with
  | lst l => obtain ⟨o', vs', n', h3, ⟨h4, _⟩, h5, _⟩ := x; rw [h1] at h3; cases h3; rw [h2] at h5; cases h5
  | dct l => obtain ⟨_, kvs, ⟨o', es, ep, h3, h4, h5, _⟩, _⟩ := x; rw [h1] at h3; cases h3; rw [h2] at h5; cases h5
  | rng x y => obtain ⟨t, u, v, h3⟩ := x; rw [IsRange, h1] at h3; cases h3; cases h2
  | exc c => obtain ⟨o', C, vs', h3, h4, h5, h6⟩ := x; rw [h1] at h3; cases h3; rw [h2] at h6; cases h6
theorem Rp.turned {env oa} {s s' : Shared} {a : Addr} {i : Nat} {c c' : Cont} {m : Option Addr} (R : Rp B F env oa ρ s) (hs : ρ[i]? = some (some (.own c m))) (ha : oa i = some a) (hc : ContAt B s.heap a c)
    (k : KpW B (fun b => b = a) s s') (hc' : ContAt B s'.heap a c') : Rp B F env oa (ρ.set i (some (.own c' m))) s' := by
  obtain ⟨hp, hb, o0, ho0⟩ := R.opriv i a ha
  have hlt : i < ρ.length := (List.getElem?_eq_some_iff.mp hs).1
  have hL : env.locals ≠ a := fun q => hp (.inl q.symm)
  have cell : ∀ {b v}, s.heap.IsCell b v → s'.heap.IsCell b v := fun {b v} y => by
    obtain ⟨o, ho, hd⟩ := id y
    obtain ⟨sl, ho'⟩ := k.data b o ho (fun q => by subst q; exact hc.notCell y)
    exact ⟨_, ho', hd⟩
  have ns : ∀ {m}, s.heap.Ns env.locals m → s'.heap.Ns env.locals m := fun y => by
    obtain ⟨o, es, ep, ho, r⟩ := y
    obtain ⟨sl, ho'⟩ := k.data _ o ho hL
    exact ⟨_, es, ep, ho', r⟩
  have var : ∀ {y k v}, VarAt env s.heap y k v → VarAt env s'.heap y k v := fun {y k v} hv => by
    cases k with
    | loc => (obtain ⟨m, h1, h2⟩ := hv; exact ⟨m, ns h1, h2⟩)
    | cel => (obtain ⟨c, h1, h2⟩ := hv; exact ⟨c, h1, cell h2⟩)
    | fre => (obtain ⟨c, h1, h2⟩ := hv; exact ⟨c, h1, cell h2⟩)
  refine ⟨fun b o h => k.keep b o (R.base b o h) (fun q => by subst q; rw [hb] at h; cases h) (.inr (by rw [h]; rfl)), R.scope, R.globals, R.builtins, ?_, ?_, R.apart, R.locCell, fun x c h => ?_, R.privNew, fun j x kd sl h1 h2 => ?_, R.oinj, fun j b h => ?_⟩
  · (obtain ⟨m, h⟩ := R.ns; exact ⟨m, ns h⟩)
  · intro j y kd h1 h2
    obtain ⟨c, v, h3, h4, h5⟩ := R.cells j y kd h1 h2
    exact ⟨c, v, h3, cell h4, h5⟩
  · obtain ⟨v, h1⟩ := R.cellsLive x c h; exact ⟨v, cell h1⟩
  · by_cases e : j = i
    · subst e
      rw [List.getElem?_set_self hlt] at h2; cases h2
      obtain ⟨b, g1, g2, g3, g4⟩ := R.slots j x kd _ h1 hs
      rw [ha] at g3; cases g3
      exact ⟨a, var g1, hc', ha, g4⟩
    · rw [List.getElem?_set_ne (Ne.symm e)] at h2
      have z := R.slots j x kd sl h1 h2
      cases sl with
      | im d => (obtain ⟨v, g1, g2⟩ := z; exact ⟨v, var g1, g2.grow k.tups⟩)
      | fz c => (obtain ⟨b, g1, g2, g3⟩ := z; exact ⟨b, var g1, g2.kp k (fun q => g3 (.inr ⟨i, q ▸ ha⟩)), g3⟩)
      | own c => (obtain ⟨b, g1, g2, g3, g4⟩ := z; exact ⟨b, var g1, g2.kp k (fun q => e (R.oinj j i a (q ▸ g3) ha)), g3, g4⟩)
  · obtain ⟨h1, h2, o, ho⟩ := R.opriv j b h
    exact ⟨h1, h2, by obtain ⟨o', ho', _⟩ := k.live b o ho; exact ⟨o', ho'⟩⟩
theorem list_snoc3 {α β : Type} {l : List α} {r : List β} {z : β} (h : l.length = (r ++ [z]).length) : ∃ l' u, l = l' ++ [u] ∧ l'.length = r.length := by
  have hne : l ≠ [] := fun q => by rw [q] at h; simp at h
  exact ⟨l.dropLast, l.getLast hne, (List.dropLast_concat_getLast hne).symm, by rw [List.length_dropLast, h]; simp⟩
theorem SW.callM {f : Str} {p1 : Pos} {e : Expr} {rest : List Expr} {pos spos : Pos} {Q : Fl → List (Option Sl) → Prop} {l : List (Str × D)} {m : Option Addr} (i : Nat) (hs : ρ[i]? = some (some (.own (.dct l) m)))
    (hk : F.scope.names.lookup f = some .globalImplicit)
    (h : LW B F X n ρ (e :: rest) fun rs => ∃ rs', rs = rs' ++ [.ct (.ow i) (.dct l)] ∧ SpecM B f n (rs'.map AV.ag) l fun l' => Q .next (ρ.set i (some (.own (.dct l') m))))
    (hf0 : ∃ fa o fd, B.mg f = some (.ref fa) ∧ B.hB.get? fa = some o ∧ o.data = .func fd)
    (he : ∀ env, starEach (e :: rest) env = (false, eval e env) :: starEach rest env := by intro _; rfl) (hd : (f == ("__debug__" : Str)) = false := by decide) :
    SW B F X n ρ (.Expr (.Call (.Name f p1) (e :: rest) [] pos) spos) Q := by
  refine .mk ?_
  intro env oa A s hdd R a
  obtain ⟨fa, o, fd, h1, h2, h3⟩ := hf0
  have hkf : env.scope.kind = .function := by rw [R.scope]; exact F.fn
  have hx : env.kindOf f = some .globalImplicit := by unfold Env.kindOf; rw [R.scope]; exact hk
  have ks : ∀ {s' : Shared}, (∀ b o, B.hB.get? b = some o → s'.heap.get? b = some o) → s'.heap.Ns env.globals B.mg := fun q => by rw [R.globals]; exact B.g.keeps q
  refine wpAny_Expr_any ?_ (by unfold interactive; rw [R.scope, F.fn]; rfl) rfl
  refine wpAny_Call_ofName (Name_function_global hkf hx (loadGlobal_global (ks R.base) h1 ?_) hd)
  show wpAny _ _ (callWith pos (.ref fa) [] (backTo pos (starEach (e :: rest) env)) []) _ _ s
  refine callWith_def h3 (wpAny_mono (h.go env oa A s pos R a) (fun vs s1 hz1 => ?_) fun _ _ x => x.toW) (he env)
  obtain ⟨rs, ⟨rs', rfl, sp⟩, k1, hl, hv⟩ := hz1
  have R1 := R.kp k1
  obtain ⟨vs', u, rfl, hl'⟩ := list_snoc3 hl
  obtain ⟨ad, rfl, hca, hoa⟩ : VR B env oa s s1 u (.ct (.ow i) (.dct l)) := hv rs'.length u _ (by rw [← hl']; simp) (by simp)
  obtain ⟨fa', o', fd', g1, g2, g3, g4⟩ := sp
  rw [h1] at g1; cases g1
  refine ⟨R1.base _ _ h2, wpAny_call (codeAny_mono (g4 A s1 vs' ad R1.base (a.kp k1) (by simp [hl']) (fun j v g q1 q2 => ?_) hca (R.opriv i ad hoa).2.1) fun r s2 x => ?_)⟩
  · rw [List.getElem?_map] at q2
    cases hq : rs'[j]? with
    | none => rw [hq] at q2; cases q2
    | some r =>
      rw [hq] at q2; cases q2
      have hj1 := (List.getElem?_eq_some_iff.mp q1).1
      have hj2 := (List.getElem?_eq_some_iff.mp hq).1
      exact (hv j v r (by rw [List.getElem?_append_left hj1]; exact q1) (by rw [List.getElem?_append_left hj2]; exact hq)).ag
  · match r, x with
    | .ok (.ret v), ⟨l', h5, h6, h7⟩ =>
      have R2 := R1.turned hs hoa hca h6 h7
      exact ⟨.next, _, oa, h5, trivial, R2, (Kp.toW k1).trans (h6.mono fun b q => .inr ⟨i, q ▸ hoa⟩) (fun _ x => .inl x), OwnFrom.refl _ _⟩
    | .ok .next, x => exact x.elim
    | .ok .brk, x => exact x.elim
    | .ok .cont, x => exact x.elim
    | .error e, x => exact x.elim
end
end Mine
end

section
open PySem PySem.W PyProof.Rows PySem.Calls PyProof PySem.SeqAt
set_option Elab.async false
set_option maxRecDepth 100000
set_option linter.unusedVariables false
namespace Mine
section
variable {B : Bs} {F : Fi} {X : Str → Prop} {n : Nat} {ρ : List (Option Sl)}
theorem CmpS.inTS {ss : List Str} {x : Str} : CmpS B n .In (.im (.str x)) (.im (.tup (ss.map .str))) (ss.contains x) := fun env oa A s0 s vx vy E b a u y => by
  obtain ⟨t, rfl⟩ := u.str
  obtain ⟨l, vs, rfl, h1, h2⟩ := y.isTup
  have hs := h2.strs
  refine in_tupleAt (fun v => match v with | .str j _ => j == x | _ => false) h1 (fun y hy => ?_) ⟨?_, Kp.refl _⟩
  · have hy : y ∈ vs.toList := by simpa using hy
    obtain ⟨j, t', rfl⟩ := hs.all y hy
    exact EqAt.str_str _ _ _ _
  · rw [← Array.any_toList]
    congr 1
    have : ∀ {vs : List Value} {ss : List Str}, StrsAre vs ss → vs.any (fun v => match v with | .str j _ => j == x | _ => false) = ss.contains x := by
      intro vs ss h; induction h with
      | nil => rfl
      | cons y' t r ih => rw [List.any_cons, ih, List.contains_cons]; congr 1; exact Bool.beq_comm
    exact this hs
theorem CmpS.eqB (a b : Bool) : CmpS B n .Eq (.im (.bool a)) (.im (.bool b)) (a == b) := fun env oa A s0 s vx vy E bs ar x y => by
  rw [x.bool, y.bool]; exact PyProof.Rows.eq_bool ⟨rfl, Kp.refl _⟩
theorem CmpS.neB (a b : Bool) : CmpS B n .NotEq (.im (.bool a)) (.im (.bool b)) (a != b) := fun env oa A s0 s vx vy E bs ar x y => by
  rw [x.bool, y.bool]; exact PyProof.Rows.ne_bool ⟨rfl, Kp.refl _⟩
theorem BinS.pow {a k : Int} (hn : 0 ≤ k) (hn2 : k ≤ 1000000) (ha : a.natAbs < 2 ^ 64) : BinS B n .Pow (.im (.int a)) (.im (.int k)) (.im (.int (a ^ k.toNat))) := fun env oa A s0 s vx vy E bs ar x y => by
  obtain ⟨t, rfl⟩ := x.int; obtain ⟨u, rfl⟩ := y.int
  exact PyProof.Rows.pow_int_small hn hn2 ha ⟨Kp.toks, Im.int _ _⟩
theorem noFill_tuple_mul : fillsNumberSlot (.type "tuple") "mul" = pure false :=
  PySem.fillsNumberSlot_seq (id := "tuple.__mul__") (r := some (.builtin "tuple.__rmul__")) PySem.F.slot_tuple_mul.lookup (by decide +kernel) PySem.F.slot_tuple_rmul.lookup (by decide +kernel)
theorem repeat_tuple : seqRepeat? (.type "tuple") = pure (some (.builtin "tuple.__mul__")) := by
  unfold seqRepeat?
  rw [PySem.seqSlot_of (T := "tuple") (name := "__mul__") (id := "tuple.__mul__") PySem.F.slot_tuple_mul.lookup (by decide +kernel), PySem.seqSlot_of (T := "tuple") (name := "__rmul__") (id := "tuple.__rmul__") PySem.F.slot_tuple_rmul.lookup (by decide +kernel)]
  rfl
theorem int_rmul_tuple (a : Int) (t : Tok) (l : Addr) (items : Array Value) (n : Nat) (d : Option Addr) (sl : Array (Option Value)) :
    Meets (Builtin.«int.__rmul__» ⟨[.int a t, .ref l], []⟩) (fun _ R s => s.heap.get? l = some { cls := .type "tuple", dict := d, data := .seq items n, slots := sl } ∧ R (.ok (.ret Value.notImplemented)) s) :=
  .of_wp fun prog w A R s h => by obtain ⟨hp, g, d, tk, os⟩ := s; obtain ⟨hl, h⟩ := h; wp_walk; exact ⟨_, rfl, h⟩
theorem tuple_mul_one (l : Addr) (items : Array Value) (n : Nat) (d : Option Addr) (sl : Array (Option Value)) (u : Tok) :
    Meets (Builtin.«tuple.__mul__» ⟨[.ref l, .int 1 u], []⟩) (fun _ R s => s.heap.get? l = some { cls := .type "tuple", dict := d, data := .seq items n, slots := sl } ∧ R (.ok (.ret (.ref l))) s) :=
  .of_wp fun prog w A R s h => by
    obtain ⟨hp, g, d, tk, os⟩ := s; obtain ⟨hl, h⟩ := h
    unfold Builtin.«tuple.__mul__»
    wp_walk
    exact ⟨_, rfl, h⟩
theorem tuple_mul_more (l : Addr) (items : Array Value) (n : Nat) (d : Option Addr) (sl : Array (Option Value)) (k : Int) (u : Tok) (h1 : items.isEmpty = false) (h2 : 1 < k) (h3 : k < 1000) (h4 : items.size < 1000) :
    Meets (Builtin.«tuple.__mul__» ⟨[.ref l, .int k u], []⟩) (fun _ R s => s.heap.get? l = some { cls := .type "tuple", dict := d, data := .seq items n, slots := sl } ∧
      R (.ok (.ret (.ref s.heap.objs.size))) { s with heap := s.heap.push { cls := .type "tuple", data := .seq (List.foldl (fun x1 x2 => x1 ++ x2) #[] (List.replicate k.toNat items)) } }) :=
  .of_wp fun prog w A R s h => by
    obtain ⟨hp, g, d, tk, os⟩ := s; obtain ⟨hl, h⟩ := h
    unfold Builtin.«tuple.__mul__»
    have hsz : (List.foldl (fun x1 x2 => x1 ++ x2) #[] (List.replicate k.toNat items)).size ≤ sizeLine := by
      have fr : ∀ (n : Nat) (acc : Array Value), ((List.replicate n items).foldl (fun x1 x2 => x1 ++ x2) acc).size = acc.size + n * items.size := by
        intro n
        induction n with
        | zero => intro acc; simp
        | succ n ih => intro acc; rw [List.replicate_succ, List.foldl_cons, ih, Array.size_append, Nat.add_one_mul]; omega
      rw [fr, sizeLine_eq]
      have := Nat.mul_le_mul (show k.toNat ≤ 1000 by omega) (Nat.le_of_lt h4)
      simp; omega
    have hmul : (items.size : Int) * k ≤ 1000000 := by
      have := Int.mul_le_mul (show (items.size : Int) ≤ 1000 by omega) (show k ≤ 1000 by omega) (by omega) (by omega)
      omega
    wp_walk
    refine wpAny_ite_false (by simp; omega) ?_
    wp_walk
    refine wpAny_ite_false (by simp [h1]; omega) ?_
    wp_walk
    refine wpAny_ite_false (by simp [h1]; omega) ?_
    wp_walk
    refine wpAny_ite_false (by simp; omega) ?_
    wp_walk
    refine wpAny_ite_false (by simp [Builtin.Tuple.tupleTooMany, sizeLine_eq]; omega) ?_
    wp_walk
    exact ⟨_, rfl, h⟩

theorem repArr (v : Value) : ∀ (n : Nat) (acc : Array Value), ((List.replicate n #[v]).foldl (fun x1 x2 => x1 ++ x2) acc).toList = acc.toList ++ List.replicate n v
  | 0, acc => by simp
  | n + 1, acc => by rw [List.replicate_succ, List.foldl_cons, repArr v n]; simp [List.replicate_succ]
theorem Ims.rep {h : Heap} {v : Value} {d : D} (x : Im h v d) : ∀ n, Ims h (List.replicate n v) (List.replicate n d)
  | 0 => .nil
  | n + 1 => .cons x (Ims.rep x n)
theorem BinS.mulT1 {d : D} {k : Int} (h1 : 1 ≤ k) (h2 : k < 1000) : BinS B n .Mult (.im (.tup [d])) (.im (.int k)) (.im (.tup (List.replicate k.toNat d))) := fun env oa A s0 s vx vy E b a x y => by
  obtain ⟨p, ⟨cls, dd, data, sl⟩, vs, m, rfl, g1, g2, g3, g4⟩ := x.tup
  obtain ⟨u, rfl⟩ := y.int
  simp only at g2 g3
  subst g2 g3
  obtain ⟨v, hv⟩ := len1 (l := vs.toList) (by rw [g4.length]; rfl)
  have hvs : vs = #[v] := by apply Array.ext'; rw [hv]
  subst hvs
  have g5 : Im s.heap v d := by cases g4 with | cons q _ => exact q
  refine wpAny_binaryOp_repeat_ref (T := "tuple") (U := "int") (by decide) ⟨_, g1, rfl⟩ (fun s' => typeIs_int s' k u) noFill_tuple_mul PySem.F.fills_int_mul PySem.F.slot_int_rmul repeat_tuple PySem.F.slot_int_index.lookup
    (call_meets PySem.F.slot_int_rmul (typeIs_int s k u) PySem.F.entry_int_rmul (PySem.F.args_int_rmul_2 _ _) (int_rmul_tuple k u p #[v] m dd sl) ⟨g1, rfl, ⟨_, g1, rfl⟩, ?_⟩)
  by_cases e : k = 1
  · subst e
    exact call_meets PySem.F.slot_tuple_mul ⟨_, g1, rfl⟩ PySem.F.entry_tuple_mul (PySem.F.args_tuple_mul_2 _ _) (tuple_mul_one p #[v] m dd sl u) ⟨g1, Kp.refl _, Im.tup g1 rfl rfl g4⟩
  · refine call_meets PySem.F.slot_tuple_mul ⟨_, g1, rfl⟩ PySem.F.entry_tuple_mul (PySem.F.args_tuple_mul_2 _ _) (tuple_mul_more p #[v] m dd sl k u rfl (by omega) h2 (by simp)) ⟨g1, ?_⟩
    have kk : Kp B s { s with heap := s.heap.push { cls := .type "tuple", data := .seq (List.foldl (fun x1 x2 => x1 ++ x2) #[] (List.replicate k.toNat #[v])) } } := push_kp (t := s.toks) _
    refine ⟨kk, Im.tup (Heap.get?_push_size _ rfl) rfl rfl ?_⟩
    rw [repArr]
    exact (Ims.rep g5 _).grow kk.tups
theorem EW.dictSS {a b c d : Str} {k1 k2 k3 k4} {p1 p2 p3 p4 pos : Pos} {Q : AV → Prop} (hne : (a == c) = false) (h : Q (.ct .fr (.dct [(a, .str b), (c, .str d)]))) :
    EW B F X n ρ (.Dict [some (.Constant (.str a) k1 p1), some (.Constant (.str c) k2 p2)] [.Constant (.str b) k3 p3, .Constant (.str d) k4 p4] pos) Q := by
  refine .mk ?_
  intro env oa A s R ar
  refine wpAny_Dict_pairs (knd := strKind B.prog B.w) (pairs := [(eval (.Constant (.str a) k1 p1) env, do let x ← eval (.Constant (.str b) k3 p3) env; standAt pos; pure x), (eval (.Constant (.str c) k2 p2) env, do let x ← eval (.Constant (.str d) k4 p4) env; standAt pos; pure x)]) rfl (by simp) (by simp) ?_
  refine evalPairs_cons (wpAny_Constant_str (wpAny_bind (wpAny_Constant_str (wpAny_bind (wpAny_standAt (wpAny_pure ?_))))))
  refine evalPairs_cons (wpAny_Constant_str (wpAny_bind (wpAny_Constant_str (wpAny_bind (wpAny_standAt (wpAny_pure (evalPairs_nil ?_)))))))
  have hne' : ¬ a = c := by simpa using hne
  refine ⟨[(a, _), (c, _)], ⟨strKind_is _ _ _ _, rfl, strKind_is _ _ _ _, rfl, trivial⟩, Heap.DictOf.new _, fun h' hd hs => ?_⟩
  have k0 : Kp B s { s with heap := h', toks := s.toks + 1 + 1 + 1 + 1 + 2 } := Kp.of fun b o q => (hs.2 b (Nat.ne_of_lt (Heap.lt_size q))).trans (Heap.get?_push_of_some _ q)
  refine ⟨_, h, k0, _, rfl, ⟨?_, _, hd, ?_⟩, fresh_size s⟩
  · have hlt : sysModules < s.heap.objs.size := by
      obtain ⟨o', es', ep', ho', _⟩ := B.g
      have h3 := Heap.lt_size (R.base _ _ ho')
      exact Nat.lt_of_le_of_lt (by decide) h3
    exact beq_eq_false_iff_ne.mpr (fun q => by rw [q] at hlt; exact Nat.lt_irrefl _ hlt)
  · have e : ∀ v w : Value, merged ([] : List (Str × Value)) [(a, v), (c, w)] = [(a, v), (c, w)] := fun v w => by simp [merged, stored, hne']
    rw [e]
    exact .cons (.str _ _) (.cons (.str _ _) .nil)
theorem EW.and3 {x y z pos} {Q : AV → Prop} (h : EW B F X n ρ x fun r => ∃ b, TruS B n r b ∧ if b = true then EW B F X n ρ (.BoolOp .And [y, z] pos) Q else Q r) : EW B F X n ρ (.BoolOp .And [x, y, z] pos) Q :=
  .mk fun env oa A s R a => by
    show wpAny _ A (do
      let v ← eval x env
      standAt pos
      let t ← holding [v] (truthy v)
      match BoolOp.And, t with
      | .And, false | .Or, true => pure v
      | _, _ => eval (.BoolOp .And [y, z] pos) env) _ _ s
    refine wpAny_bind (h.run R a (Kp.refl _) fun vx s1 rx hz k1 x1 => wpAny_bind (wpAny_standAt (wpAny_bind (wpAny_holding ?_))))
    obtain ⟨b, hb, q⟩ := hz
    refine wpAny_mono (hb env oa A s s1 vx _ (R.kp k1).base (a.kp k1) x1) (fun v s3 hz17 => ?_) fun _ _ x => x
    obtain ⟨e, k3⟩ := hz17
    subst e
    cases v with
    | true =>
      have q' : EW B F X n ρ (.BoolOp .And [y, z] pos) Q := by simpa using q
      exact q'.run ((R.kp k1).kp k3) ((a.kp k1).kp k3) (k1.trans k3) fun v s2 r h1 h2 h3 => ⟨r, h1, (k1.trans k3).trans h2, h3.back (k1.trans k3)⟩
    | false => exact wpAny_pure ⟨rx, by simpa using q, k1.trans k3, x1.kp k3⟩
end
end Mine
end

section
open PySem PySem.W PyProof.Rows PySem.Calls PyProof
set_option Elab.async false
set_option maxRecDepth 100000
set_option linter.unusedVariables false
namespace Mine
mutual
inductive DV (F : Fi) (ρ : List (Option Sl)) : Expr → D → Prop
  | str {x k p} : DV F ρ (.Constant (.str x) k p) (.str x)
  | name {x p d k} (i : Nat) : F.vars[i]? = some (x, k) → ρ[i]? = some (some (.im d)) → DV F ρ (.Name x p) d
  | tup {es k p ds} : Nat.ble es.length 100 = true → DVs F ρ es ds → DV F ρ (.Tuple es k p) (.tup ds)
inductive DVs (F : Fi) (ρ : List (Option Sl)) : List Expr → List D → Prop
  | nil : DVs F ρ [] []
  | cons {e d es ds} : DV F ρ e d → DVs F ρ es ds → DVs F ρ (e :: es) (d :: ds)
end
theorem DVs.length {F : Fi} {ρ : List (Option Sl)} : ∀ {es ds}, DVs F ρ es ds → es.length = ds.length
  | _, _, .nil => rfl
  | _, _, .cons _ r => by simp [r.length]
theorem DV.star {F : Fi} {ρ : List (Option Sl)} {e d} (h : DV F ρ e d) (rest : List Expr) (env : Env) : starEach (e :: rest) env = (false, eval e env) :: starEach rest env := by
  cases h with
  | str => rfl
  | name i h1 h2 => rfl
  | tup h1 h2 => rfl
section
variable {B : Bs} {F : Fi} {X : Str → Prop} {n : Nat} {ρ : List (Option Sl)}
theorem datsOf : ∀ (ds : List D), Dats (ds.map AV.im) ds
  | [] => .nil
  | d :: ds => .cons (datsOf ds)
mutual
theorem EW.dv {Q : AV → Prop} : ∀ {e d}, DV F ρ e d → Q (.im d) → EW B F X n ρ e Q
  | _, _, .str, q => EW.cstr q
  | _, _, .name i h1 h2, q => EW.name i h1 h2 q
  | _, _, .tup (ds := ds) h1 h2, q => EW.tuple (LW.dvs h2 ⟨ds, datsOf ds, by
      have := Nat.le_of_ble_eq_true h1
      rw [h2.length] at this
      exact Nat.le_trans this (by decide), q⟩)
theorem LW.dvs {Q : List AV → Prop} : ∀ {es ds}, DVs F ρ es ds → Q (ds.map AV.im) → LW B F X n ρ es Q
  | _, _, .nil, q => LW.nil q
  | _, _, .cons h r, q => LW.cons (EW.dv h (LW.dvs r q)) (h.star _)
end
end
end Mine
end

section
open PySem PySem.W PyProof.Rows PySem.Calls PyProof
set_option Elab.async false
set_option maxRecDepth 100000
set_option linter.unusedVariables false
namespace Mine
section
variable {prog : Program} {w : World} {A : Around} {E : Value → Shared → Prop} {s : Shared}
theorem sortedOf {it : Value} {Q : Value → Shared → Prop}
    (hc : ∀ (A' : Around) (E' : Value → Shared → Prop), A'.handled = A.handled → wpAny (model prog w) A' (collect it) (fun vs s1 => ∃ ss, StrsAre vs ss ∧ vs.length < 64 ∧ ∀ (out : Array Value) (ss' : List Str), StrsAre out.toList ss' → ss'.Perm ss → sortedS ss' = true →
      Q (.ref s1.heap.objs.size) { s1 with heap := sortedHeap (s1.heap.push (seqObj "list" vs.toArray 0)) s1.heap.objs.size vs out }) E' s) :
    wpAny (model prog w) A (call (.builtin "sorted") [it]) Q E s := by
  refine Calls.call_function_entry kind_sorted plain_sorted entry_sorted (args_sorted1 _) ?_
  unfold Builtin.«sorted»
  refine wpAny_bind (m := checkCount "sorted" 1 1 _) (wpAny_pure ?_)
  refine wpAny_bind (wpAny_mono (hc _ _ ?_) (fun vs s1 hz => ?_) fun _ _ x => x)
  · first | rfl | simp
  obtain ⟨ss, h1, h2, h3⟩ := hz
  refine wpAny_bind (wpAny_newList ?_)
  have hoL : (s1.heap.push (seqObj "list" vs.toArray 0)).get? s1.heap.objs.size = some (seqObj "list" vs.toArray 0) := Heap.get?_push_size _ rfl
  refine wpAny_bind (wpAny_holding (wpAny_call_entry slot_list_sort ⟨_, hoL, rfl⟩ entry_list_sort (list_sort_treeK (s := { s1 with heap := s1.heap.push (seqObj "list" vs.toArray 0) }) strKind_oneLt hoL h1.keysOf (fun v₁ v₂ rest e => keyKind_strs (by rw [← e]; exact h1)) h2 fun st' a1 a2 => ⟨_, rfl, ?_⟩) (args_list_sort _)))
  obtain ⟨ss', q1, q2, q3⟩ := sorted_out_str h1 a1 a2
  exact wpAny_pure ⟨_, rfl, h3 _ ss' q1 q2 q3⟩
theorem sortedPost {B : Bs} {s0 s1 : Shared} {vs : List Value} {out : Array Value} {ss ss' : List Str} {h : Heap} {t : Nat} (k : Kp B s0 { s0 with heap := h, toks := t }) (e1 : StrsAre out.toList ss') (e2 : ss'.Perm ss) (e3 : sortedS ss' = true) {env : Env} {oa : Nat → Option Addr} :
    Kp B s0 { s0 with heap := sortedHeap (h.push (seqObj "list" vs.toArray 0)) h.objs.size vs out, toks := t } ∧
    VR B env oa s0 { s0 with heap := sortedHeap (h.push (seqObj "list" vs.toArray 0)) h.objs.size vs out, toks := t } (.ref h.objs.size) (.ct .fr (.lst ((srt ss).map .str))) := by
  have hoL : (h.push (seqObj "list" vs.toArray 0)).get? h.objs.size = some (seqObj "list" vs.toArray 0) := Heap.get?_push_size _ rfl
  obtain ⟨e, he⟩ := sortedHeap_at (vs := vs) (out := out) hoL
  have hold : ∀ b o, h.get? b = some o → (sortedHeap (h.push (seqObj "list" vs.toArray 0)) h.objs.size vs out).get? b = some o := fun b o q => by
    have hlt := Heap.lt_size q
    rw [sortedHeap_old (Nat.ne_of_lt hlt) (by rw [Heap.size_push]; exact Nat.lt_succ_of_lt hlt)]
    exact Heap.get?_push_of_some _ q
  have k2 : Kp B { s0 with heap := h, toks := t } { s0 with heap := sortedHeap (h.push (seqObj "list" vs.toArray 0)) h.objs.size vs out, toks := t } := Kp.of (s := { s0 with heap := h, toks := t }) hold
  refine ⟨k.trans k2, _, rfl, ⟨_, out, e, he, ⟨rfl, rfl⟩, rfl, ?_⟩, k.fresh (fresh_size { s0 with heap := h, toks := t })⟩
  rw [← srt_unique e2 (sortedS_pw e3)]
  exact Ims.ofStrs e1
theorem collectD {K : Type} [DecidableEq K] {knd : KeyKind prog w K} {d : Addr} {kvs : List (K × Value)} {ep : Nat} {Q : List Value → Shared → Prop} (hh : A.handled = none) (lo : (d == sysModules) = false) (hm : s.heap.DictAt knd d kvs ep) (hn : kvs.length ≤ sizeLine)
    (hQ : ∀ h' tk acc, (∀ b o, s.heap.get? b = some o → h'.get? b = some o) → ItemsOf (fun i v => ∃ k x, kvs[i]? = some (k, x) ∧ knd.is k v = true) acc kvs.length → Q acc.toList { s with heap := h', toks := tk }) :
    wpAny (model prog w) A (collect (.ref d)) Q E s := by
  have hd : d < s.heap.objs.size := hm.lt_size
  have hS : (s.heap.push { cls := .type "list", data := .seq ([] : List Value).toArray }).get? s.heap.objs.size = some { cls := .type "list", data := .seq #[] 0 } := Heap.get?_push_size _ rfl
  unfold collect
  refine wpAny_bind (wpAny_runValue (codeAny_builtin PySem.F.entry_proto_collect ?_))
  rw [Around.under_plainId PySem.F.plain_proto_collect _]
  show wpAny _ A.in1 (newList [] >>= fun l => again (.builtin "list.__iadd__" ⟨[l, .ref d], []⟩)) _ _ s
  refine wpAny_bind (wpAny_newObj_type ?_)
  refine wpAny_pure ⟨plainId_quiet PySem.F.plain_list_iadd _, codeAny_builtin PySem.F.entry_list_iadd ?_⟩
  rw [Around.under_plainId PySem.F.plain_list_iadd _]
  show wpAny _ A.in1 (Builtin.List.listExtendWith (.ref s.heap.objs.size) (.ref d) (.ref s.heap.objs.size)) _ _ _
  have tail : ∀ h' tk acc' c', (∀ b o, s.heap.get? b = some o → h'.get? b = some o) → h'.get? s.heap.objs.size = some { cls := .type "list", dict := none, data := .seq acc' c', slots := #[] } → ItemsOf (fun i v => ∃ k x, kvs[i]? = some (k, x) ∧ knd.is k v = true) acc' kvs.length →
      wpAny (model prog w) A (match (Value.ref s.heap.objs.size) with | .ref a => (do match (← load a).data with | .seq xs _ => pure xs.toList | _ => unsupported "internal:collect") | _ => unsupported "internal:collect") Q E { s with heap := h', toks := tk } := fun h' tk acc' c' hk hS' hacc => by
    show wpAny _ A (load s.heap.objs.size >>= _) _ _ _
    exact wpAny_bind (wpAny_load hS' (wpAny_pure (hQ h' tk acc' hk hacc)))
  refine wpAny_mono (kdl_extend (R := fun r s' => ∃ h' tk acc' c', r = .ok (.ret (.ref s.heap.objs.size)) ∧ s' = { s with heap := h', toks := tk } ∧ (∀ b o, s.heap.get? b = some o → h'.get? b = some o) ∧ h'.get? s.heap.objs.size = some { cls := .type "list", dict := none, data := .seq acc' c', slots := #[] } ∧ ItemsOf (fun i v => ∃ k x, kvs[i]? = some (k, x) ∧ knd.is k v = true) acc' kvs.length)
    (s := { s with heap := s.heap.push { cls := .type "list", data := .seq ([] : List Value).toArray } }) (kdl_dict (knd := knd) (kvs := kvs) (ep := ep) lo) hh (hm.push _) s.heap.objs.size (Nat.ne_of_gt hd) (Nat.ne_of_gt hd) (.ref s.heap.objs.size) 0 hS
    (fun h' tk acc' c' hk hS' hacc => ⟨h', tk, acc', c', rfl, rfl, fun b o e => hk b o (Nat.ne_of_lt (Heap.lt_size e)) (Heap.get?_push_of_some _ e), hS', hacc⟩) hn) (fun fin s' hz => ?_) fun e s' hz => ?_
  · cases fin with
    | done f => obtain ⟨h', tk, acc', c', q, rfl, g1, g2, g3⟩ := hz; cases q; exact tail h' tk acc' c' g1 g2 g3
    | again c =>
      obtain ⟨q1, q2⟩ := hz
      refine ⟨q1, codeAny_mono q2 fun r s' hz => ?_⟩
      obtain ⟨h', tk, acc', c', q, rfl, g1, g2, g3⟩ := hz; cases q; exact tail h' tk acc' c' g1 g2 g3
  · obtain ⟨_, _, _, _, q, _⟩ := hz; cases q
end
section
variable {B : Bs} {F : Fi} {X : Str → Prop} {n : Nat} {ρ : List (Option Sl)}
theorem StrsAre.ofKeys : ∀ {ks : List Str} {vs : List Value}, vs.length = ks.length → (∀ (j : Nat) (v : Value), vs[j]? = some v → ∃ k, ks[j]? = some k ∧ ∃ t, v = Value.str k t) → StrsAre vs ks
  | [], [], _, _ => .nil
  | [], _ :: _, h, _ => by cases h
  | _ :: _, [], h, _ => by cases h
  | k :: ks, v :: vs, hl, hv => by
    obtain ⟨k', e, t, e'⟩ := hv 0 v rfl
    simp at e; subst e; subst e'
    exact .cons _ _ (StrsAre.ofKeys (by simpa using hl) fun j v q => by simpa using hv (j + 1) v (by simpa using q))
theorem BuiS.sortedD {m : Md} {l : List (Str × D)} (h : l.length < 64) (hq : B.quiet = true := by assumption) : BuiS B n (.builtin "sorted") [.ct m (.dct l)] (.ct .fr (.lst ((srt (l.map (·.1))).map .str))) := .one fun env oa A s0 s v E b a x => by
  obtain ⟨d, kvs, rfl, h0, h1, h2⟩ := x.dct
  obtain ⟨ep, h3⟩ := h1.dictAt
  have hl : kvs.length = l.length := h2.length
  refine sortedOf fun A' E' hh' => collectD (knd := strKind B.prog B.w) (hh'.trans (a.handled hq)) h0 h3 (Nat.le_trans (by omega) (show 64 ≤ sizeLine by decide)) fun h' tk acc hk hit => ?_
  have hst : StrsAre acc.toList (l.map (·.1)) := StrsAre.ofKeys (by simp [hit.1]; omega) fun j v q => by
    obtain ⟨k, x, e1, e2⟩ := hit.2 j v (by simpa using q)
    obtain ⟨dd, e3⟩ := h2.keyAt e1
    refine ⟨k, by simp [e3], ?_⟩
    have e4 : Value.isStrOf k v = true := e2
    unfold Value.isStrOf at e4
    split at e4
    · rename_i s t; exact ⟨t, by simp at e4; rw [e4]⟩
    · cases e4
  refine ⟨_, hst, by have := hit.1; simp; omega, fun out ss' e1 e2 e3 => ?_⟩
  exact sortedPost (s1 := s) (Kp.of hk) e1 e2 e3
end
end Mine
end

section
open PySem PySem.W PyProof.Rows PySem.Calls PyProof
set_option Elab.async false
set_option maxRecDepth 100000
set_option linter.unusedVariables false
namespace Mine
theorem layNew_led (t : SetTable) (es : Array (Int × Value)) (h : Int) (x : Value) : (layNew t es h x).2.1.led = t.led := by
  unfold layNew
  split
  · simp only [SetTable.orStandIn, SetTable.put, SetTable.standIn]; split <;> split <;> rfl
  · rfl
theorem relaid_kept {t t' : SetTable} {hs : Array Int} {n : Nat} {od : Array Nat} (h : t.relaid hs n = some (t', od)) : t'.led = t.led ∧ t'.plain = t.plain := by
  unfold SetTable.relaid SetTable.laid at h
  simp only [bind, Option.bind_eq_some_iff, pure] at h
  obtain ⟨ow, _, h⟩ := h
  cases h; exact ⟨rfl, rfl⟩
theorem relayAll_kept (t : SetTable) (es : Array (Int × Value)) (n : Nat) : (relayAll t es n).2.1.led = t.led ∧ (t.plain = false → (relayAll t es n).2.1.plain = false) := by
  unfold relayAll
  split
  · rename_i t' od he
    obtain ⟨h1, h2⟩ := relaid_kept he
    dsimp only
    split
    · exact ⟨h1, fun e => by rw [h2]; exact e⟩
    · exact ⟨rfl, fun _ => rfl⟩
  · exact ⟨rfl, fun _ => rfl⟩
theorem StrsAre.mem1 {k : Str} : ∀ {vs : List Value} {ss : List Str}, StrsAre vs ss → k ∈ ss → ∃ t, Value.str k t ∈ vs
  | _, _, .nil, h => by cases h
  | _, _, .cons y t r, h => by
    rcases List.mem_cons.mp h with rfl | h
    · exact ⟨t, .head _⟩
    · obtain ⟨t', e⟩ := StrsAre.mem1 r h; exact ⟨t', .tail _ e⟩
theorem StrsAre.mem2 {v : Value} : ∀ {vs : List Value} {ss : List Str}, StrsAre vs ss → v ∈ vs → ∃ k t, v = Value.str k t ∧ k ∈ ss
  | _, _, .nil, h => by cases h
  | _, _, .cons y t r, h => by
    rcases List.mem_cons.mp h with rfl | h
    · exact ⟨y, t, rfl, .head _⟩
    · obtain ⟨k, t', e, e'⟩ := StrsAre.mem2 r h; exact ⟨k, t', e, .tail _ e'⟩
theorem StrsAre.snoc {k : Str} {t : Tok} : ∀ {vs : List Value} {ss : List Str}, StrsAre vs ss → StrsAre (vs ++ [.str k t]) (ss ++ [k])
  | _, _, .nil => .cons _ _ .nil
  | _, _, .cons y t' r => .cons _ _ (StrsAre.snoc r)
theorem StrsAre.len : ∀ {vs : List Value} {ss : List Str}, StrsAre vs ss → vs.length = ss.length
  | _, _, .nil => rfl
  | _, _, .cons y t' r => by simp [StrsAre.len r]
theorem StrsAre.perm {vs us : List Value} (p : vs.Perm us) : ∀ {ss : List Str}, StrsAre us ss → ∃ ss', StrsAre vs ss' ∧ ss'.Perm ss := by
  induction p with
  | nil => intro ss h; exact ⟨ss, h, .refl _⟩
  | cons x p ih => intro ss h; cases h with | cons y t r => obtain ⟨s', h1, h2⟩ := ih r; exact ⟨_, .cons _ _ h1, h2.cons _⟩
  | swap x y l => intro ss h; cases h with | cons a t r => cases r with | cons b t' r => exact ⟨_, .cons _ _ (.cons _ _ r), .swap _ _ _⟩
  | trans p q ih1 ih2 => intro ss h; obtain ⟨s1, h1, h2⟩ := ih2 h; obtain ⟨s2, h3, h4⟩ := ih1 h1; exact ⟨s2, h3, h4.trans h2⟩
noncomputable def SetS (prog : Program) (w : World) (h : Heap) (a : Addr) (ks : List Str) : Prop :=
  ∃ o es ep t, h.get? a = some o ∧ o.ExactSet ∧ o.data = .set es ep t ∧ ElemsOf (strKind prog w) es.toList ∧ (∃ l, es.toList.Perm l ∧ StrsAre (l.map (·.2)) ks) ∧ t.fits es.size = true ∧ t.led = !w.params.followText "set-order" ∧ (0 < es.size → t.plain = false)
noncomputable def stepS (ks : List Str) (k : Str) : List Str := if k ∈ ks then ks else ks ++ [k]
noncomputable def metS (ks : List Str) : List Str := ks.foldl stepS []
section
variable {prog : Program} {w : World} {A : Around} {E : Value → Shared → Prop} {s : Shared}
theorem setTail {g : Bool → Sem Unit} (hg : ∀ (b : Bool) (s₁ : Shared) (Q' : Unit → Shared → Prop), Q' () s₁ → wpAny (model prog w) A (g b) Q' E s₁)
    {a : Addr} {o : Obj} {es : Array (Int × Value)} {ep : Nat} {t : SetTable} (ho : s.heap.get? a = some o) (hex : o.ExactSet) (hd : o.data = .set es ep t)
    {es1 : Array (Int × Value)} {t2 : SetTable} {ks : List Str} (hel1 : ElemsOf (strKind prog w) es1.toList) (hl : ∃ l, es1.toList.Perm l ∧ StrsAre (l.map (·.2)) ks)
    (hb1 : es1.size < scanBound) (hf2 : t2.fits es1.size = true) (hled : t2.led = !w.params.followText "set-order") (hp2 : t2.plain = false) {wasDummy : Bool} {R : Option Bool → Shared → Prop}
    (h : ∀ h', Heap.SameBut a s.heap h' → SetS prog w h' a ks → R (some true) { s with heap := h' }) :
    wpAny (model prog w) A (do
        storeSet a es1 t2
        if (!wasDummy && t2.tooFull) = true then do
            g (relayAll t2 es1 (SetTable.grown es1.size)).2.2
            storeSet a (relayAll t2 es1 (SetTable.grown es1.size)).1 (relayAll t2 es1 (SetTable.grown es1.size)).2.1
            pure (some true)
          else pure (some true)) R E s := by
  refine wpAny_bind (wpAny_storeSet_of ho hd ?_ (fits_of_scanBound hb1))
  have ho1 : (s.heap.update a (Obj.putSet es1 t2)).get? a = some { o with data := .set es1 (ep + 1) t2 } := by
    have := Heap.get?_update_self (Obj.putSet es1 t2) ho (by rw [putSet_of es1 t2 hd]; rfl)
    rw [putSet_of es1 t2 hd] at this; exact this
  have hsb1 := Heap.SameBut.update s.heap a (Obj.putSet es1 t2)
  split
  · have hp := relayAll_perm t2 es1 (SetTable.grown es1.size)
    have hfr := relayAll_fits t2 es1 (SetTable.grown es1.size)
    obtain ⟨hk1, hk2⟩ := relayAll_kept t2 es1 (SetTable.grown es1.size)
    generalize relayAll t2 es1 (SetTable.grown es1.size) = Rl at hp hfr hk1 hk2 ⊢
    obtain ⟨es2, t3, gave2⟩ := Rl
    dsimp only at hp hfr hk1 hk2 ⊢
    have hsz : es2.size = es1.size := by rw [← Array.length_toList, hp.length_eq, Array.length_toList]
    have hb2 : es2.size < scanBound := by rw [hsz]; exact hb1
    refine wpAny_bind (hg _ _ _ ?_)
    refine wpAny_bind (wpAny_storeSet_of ho1 rfl ?_ (fits_of_scanBound hb2))
    have ho2 : ((s.heap.update a (Obj.putSet es1 t2)).update a (Obj.putSet es2 t3)).get? a = some { o with data := .set es2 (ep + 1 + 1) t3 } :=
      Heap.get?_update_self (Obj.putSet es2 t3) ho1 rfl
    obtain ⟨l, hl1, hl2⟩ := hl
    exact wpAny_pure (h _ (hsb1.trans (Heap.SameBut.update _ a _)) ⟨_, es2, _, t3, ho2, hex, rfl, hel1.perm hp, ⟨l, hp.trans hl1, hl2⟩, hfr, hk1.trans hled, fun _ => hk2 hp2⟩)
  · exact wpAny_pure (h _ hsb1 ⟨_, es1, _, t2, ho1, hex, rfl, hel1, hl, hf2, hled, fun _ => hp2⟩)
theorem setAddS {a : Addr} {ks : List Str} {k : Str} {tk : Tok} {Q : Bool → Shared → Prop} (hS : SetS prog w s.heap a ks) (hroom : ks.length + 1 < scanBound)
    (h : ∀ h' b, Heap.SameBut a s.heap h' → SetS prog w h' a (stepS ks k) → Q b { s with heap := h', toks := s.toks + 1 }) :
    wpAny (model prog w) A (setAdd a (.str k tk)) Q E s := by
  obtain ⟨o, es, ep, t, ho, hex, hd, hel, ⟨l, hl, hst⟩, hf, hled, hpl⟩ := hS
  have hlen : es.size = ks.length := by rw [← Array.length_toList, hl.length_eq, ← List.length_map (f := (·.2)), StrsAre.len hst]
  have hb : es.size < scanBound := by omega
  have hkey : (strKind prog w).is k (.str k tk) = true := strKind_is _ _ _ _
  have hsc : (Value.str k tk).scannable = true := rfl
  unfold setAdd
  refine wpAny_holding (wpAny_bind ((strKind prog w).pyHash hkey ?_))
  unfold setAddHashed setAddHashedIn
  refine wpAny_holding (wpAny_bind (wpAny_setState_of (s := { s with toks := s.toks + 1 }) ho hd hf ?_))
  dsimp only
  rw [byScan_of hsc hb hel]
  simp only [↓reduceIte]
  unfold setAddByScan
  refine wpAny_bind ?_
  refine wpAny_bind (wpAny_rule ?_)
  refine wpAny_bind (wpAny_setScan_of (s := { s with toks := s.toks + 1 }) hkey ho hd hf hel ?_)
  cases hr : List.findIdx? (fun e => (strKind prog w).is k e.2) es.toList with
  | some j =>
    dsimp only
    obtain ⟨hj, hpj, _⟩ := List.findIdx?_eq_some_iff_getElem.mp hr
    have hm : es.toList[j].2 ∈ l.map (·.2) := List.mem_map_of_mem (hl.mem_iff.mp (List.getElem_mem hj))
    obtain ⟨k', t', e1, e2⟩ := StrsAre.mem2 hst hm
    have hkk : k = k' := (strKind prog w).inj _ k k' hpj (by rw [e1]; exact strKind_is _ _ _ _)
    have hin : k ∈ ks := hkk ▸ e2
    refine wpAny_pure (wpAny_pure ?_)
    have := h s.heap false (Heap.SameBut.refl a s.heap) (by unfold stepS; rw [if_pos hin]; exact ⟨o, es, ep, t, ho, hex, hd, hel, ⟨l, hl, hst⟩, hf, hled, hpl⟩)
    exact this
  | none =>
    dsimp only
    have hin : k ∉ ks := fun hk => by
      obtain ⟨t', ht⟩ := StrsAre.mem1 hst hk
      obtain ⟨e, he, heq⟩ := List.mem_map.mp ht
      have := List.findIdx?_eq_none_iff.mp hr e (hl.mem_iff.mpr he)
      rw [heq] at this
      exact absurd (strKind_is prog w k t') (by rw [this]; decide)
    have hgw : ∀ (b : Bool) {s₁ : Shared} {Q' : Unit → Shared → Prop}, Q' () s₁ → wpAny (model prog w) A (match b with | true => rule "set.scan.the-table-gave-way" | false => pure ()) Q' E s₁ :=
      fun b s₁ Q' hq => by cases b <;> first | exact wpAny_pure hq | exact wpAny_rule hq
    have hperm := layNew_perm t es ((strKind prog w).hash k) (.str k tk)
    have hfits := layNew_fits t es ((strKind prog w).hash k) (.str k tk)
    have hl1 := layNew_led t es ((strKind prog w).hash k) (.str k tk)
    generalize layNew t es ((strKind prog w).hash k) (.str k tk) = L at hperm hfits hl1 ⊢
    obtain ⟨es1, t1, wasDummy, gave⟩ := L
    dsimp only at hperm hfits hl1 ⊢
    rw [Array.toList_push] at hperm
    have hel1 : ElemsOf (strKind prog w) es1.toList := (hel.push hkey hsc).perm hperm
    have hb1' : es1.size < scanBound := by rw [← Array.length_toList, hperm.length_eq, List.length_append, Array.length_toList]; simp; omega
    have hl' : ∃ l, es1.toList.Perm l ∧ StrsAre (l.map (·.2)) (stepS ks k) := ⟨l ++ [((strKind prog w).hash k, .str k tk)], hperm.trans (hl.append_right _), by unfold stepS; rw [if_neg hin, List.map_append]; exact StrsAre.snoc hst⟩
    refine wpAny_bind (hgw _ ?_)
    have hend : ∀ h', Heap.SameBut a s.heap h' → SetS prog w h' a (stepS ks k) → Q true { s with heap := h', toks := s.toks + 1 } := fun h' hsb hS' => h h' true hsb hS'
    split
    · rename_i hpt
      refine wpAny_bind ?_
      rw [hashByValue_scannable 8 hsc]
      refine wpAny_pure ?_
      refine setTail (s := { s with toks := s.toks + 1 }) ?_ ho hex hd hel1 hl' hb1' ?_ ?_ ?_ ?_
      · intro b s₁ Q' hq; cases b <;> first | exact wpAny_pure hq | exact wpAny_rule hq
      · exact SetTable.fits_plain_off hfits
      · exact hl1.trans hled
      · rfl
      · intro h' hsb hS'; dsimp only; exact wpAny_pure (hend h' hsb hS')
    · rename_i hpt
      refine wpAny_bind (wpAny_pure ?_)
      simp only [↓reduceIte]
      refine setTail (s := { s with toks := s.toks + 1 }) ?_ ho hex hd hel1 hl' hb1' hfits (hl1.trans hled) (by simpa using hpt) ?_
      · intro b s₁ Q' hq; cases b <;> first | exact wpAny_pure hq | exact wpAny_rule hq
      · intro h' hsb hS'; dsimp only; exact wpAny_pure (hend h' hsb hS')
end
end Mine
end

section
open PySem PySem.W PyProof.Rows PySem.Calls PyProof PySem.Spec
set_option Elab.async false
set_option maxRecDepth 100000
set_option linter.unusedVariables false
namespace Mine
theorem metS_snoc (l : List Str) (k : Str) : metS (l ++ [k]) = stepS (metS l) k := by simp [metS, List.foldl_append]
theorem foldS_len : ∀ (l a : List Str), (l.foldl stepS a).length ≤ a.length + l.length
  | [], a => by simp
  | k :: l, a => by
    have h1 : (stepS a k).length ≤ a.length + 1 := by unfold stepS; split <;> simp
    have := foldS_len l (stepS a k)
    simp only [List.foldl_cons, List.length_cons]; omega
theorem metS_len (l : List Str) : (metS l).length ≤ l.length := by have := foldS_len l []; simpa [metS] using this
theorem StrsAre.strAt : ∀ {vs : List Value} {ks : List Str}, StrsAre vs ks → ∀ (i : Nat) (v : Value), vs[i]? = some v → ∃ k t, ks[i]? = some k ∧ v = .str k t
  | _, _, .nil, i, v, h => by simp at h
  | _, _, .cons y t r, 0, v, h => by simp at h; exact ⟨y, t, rfl, h.symm⟩
  | _, _, .cons y t r, i + 1, v, h => by
    obtain ⟨k, t', e1, e2⟩ := StrsAre.strAt r i v (by simpa using h)
    exact ⟨k, t', by simpa using e1, e2⟩
theorem SetS.at {prog : Program} {w : World} {h h' : Heap} {a : Addr} {ks : List Str} (x : SetS prog w h a ks) (e : ∀ o, h.get? a = some o → h'.get? a = some o) : SetS prog w h' a ks := by
  obtain ⟨o, es, ep, t, ho, r⟩ := x; exact ⟨o, es, ep, t, e _ ho, r⟩
section
variable {prog : Program} {w : World} {A : Around} {R : Result → Shared → Prop} {I : Addr} {fp wr : List Addr} {G : Array GenState → Array GenState → Prop} {n : Nat} {P : Nat → Value → Prop} {St : Nat → Shared → Prop}
theorem setLoop (W : WalksS prog w A.in1 I fp wr G n P St) (S : Addr) (hSf : S ∉ fp) (ks : List Str) (hks : ks.length = n)
    (hval : ∀ i v, P i v → ∃ k t, ks[i]? = some k ∧ v = .str k t) (hb : n + 1 < scanBound) :
    ∀ (k i : Nat) (s : Shared), n - i = k → i ≤ n → St i s → SetS prog w s.heap S (metS (ks.take i)) →
      (∀ s', Moved (S :: wr) G s s' → SetS prog w s'.heap S (metS ks) → R (.ok (.ret .none)) s') →
      codeAny (model prog w) A (.builtin "set.update.loop" ⟨[.ref S, .ref I], []⟩) R s := by
  have hSw : S ∉ wr := fun h => hSf (W.sub _ h)
  have hsub : ∀ b ∈ wr, b ∈ S :: wr := fun b hb => List.mem_cons_of_mem _ hb
  intro k
  induction k with
  | zero =>
    intro i s hk hi hst hS hR
    have hin : i = n := by omega
    subst hin
    refine codeAny_builtin F.entry_set_update_loop ?_
    rw [Around.under_plainId F.plain_set_update_loop _]
    show wpAny _ A.in1 (pyNext (.ref I) >>= _) _ _ s
    refine wpAny_bind (W.done s _ _ hst fun s' hm => ?_)
    show wpAny _ A.in1 (ret Value.none) _ _ s'
    rw [List.take_of_length_le (by omega)] at hS
    exact wpAny_pure (hR s' (hm.mono hsub) (hS.at fun o e => hm.heap S _ hSw e))
  | succ k ih =>
    intro i s hk hi hst hS hR
    have hlt : i < n := by omega
    refine codeAny_builtin F.entry_set_update_loop ?_
    rw [Around.under_plainId F.plain_set_update_loop _]
    show wpAny _ A.in1 (pyNext (.ref I) >>= _) _ _ s
    refine wpAny_bind (W.item i s _ _ hlt hst fun v s' hP hst' hm => ?_)
    obtain ⟨y, t, e1, rfl⟩ := hval i v hP
    have hS' := hS.at (h' := s'.heap) fun o e => hm.heap S _ hSw e
    show wpAny _ A.in1 (holding [Value.str y t] (setAdd S (.str y t)) >>= _) _ _ s'
    have hroom : (metS (ks.take i)).length + 1 < scanBound := by have := metS_len (ks.take i); have := List.length_take_le i ks; omega
    refine wpAny_bind (wpAny_holding (setAddS hS' hroom fun h' b hsb hS2 => ?_))
    have hSi : SetS prog w h' S (metS (ks.take (i + 1))) := by
      rw [List.take_add_one, e1]; simp only [Option.toList_some]; rw [metS_snoc]; exact hS2
    refine wpAny_pure ⟨plainId_quiet F.plain_set_update_loop _, ih (i + 1) _ (by omega) hlt (W.frame _ s' _ _ hst' (Nat.le_succ _) fun b hb o e => ?_) hSi fun s'' hm'' hS'' => ?_⟩
    · rw [hsb.2 b (fun h : b = S => hSf (by rw [← h]; exact hb))]; exact e
    · refine hR s'' (Moved.trans W.gtrans ((hm.mono hsub).then_heap (Nat.le_succ _) fun b o hb e => ?_) hm'') hS''
      rw [hsb.2 b (fun h : b = S => hb (by rw [h]; exact List.mem_cons_self))]; exact e
end
section
variable {prog : Program} {w : World} {A : Around} {E : Value → Shared → Prop} {s : Shared}
noncomputable def bare (w : World) : Obj := { cls := .type "set", dict := none, data := .set #[] 0 (.fresh 0 0 (!w.params.followText "set-order")) }
theorem setNewS (a : Value) {Q₁ : Value → Shared → Prop} (h : Q₁ (.ref s.heap.objs.size) { s with heap := s.heap.push (bare w) }) :
    codeAny (model prog w) A (.call (.builtin "set.__new__") ⟨[.type "set", a], []⟩) (wants Q₁ E) s := by
  refine codeAny_of_tree ?_
  show wpAny _ A.in1 (do checkBuiltinCall "set.__new__" ⟨[.type "set", a], []⟩; again (.builtin "set.__new__" ⟨[.type "set", a], []⟩)) _ _ s
  refine wpAny_bind (wpAny_of_eq (PySem.F.newCall_set_1 a) (wpAny_pure ⟨plainId_quiet PySem.F.plain_set_new _, codeAny_builtin PySem.F.entry_set_new ?_⟩))
  rw [Around.under_plainId PySem.F.plain_set_new _]
  unfold Builtin.«set.__new__» Builtin.Frozenset.newClass
  have hsub := sub_set_self
  obtain ⟨hp, g, d, tk, os⟩ := s
  dsimp only
  wp_walk
  refine wpAny_askSetting (wpAny_pure ?_)
  dsimp only
  simp only [newObj]
  refine wpAny_bind (wpAny_alloc (wpAny_pure ?_))
  exact wpAny_pure h
set_option maxHeartbeats 3200000 in
theorem callSet {l : Addr} {items : Array Value} {ks : List Str} {Q : Value → Shared → Prop}
    (hh : A.handled = none) (hl : s.heap.IsList l items) (hi : StrsAre items.toList ks) (hb : ks.length + 1 < scanBound)
    (h : ∀ (h' : Heap) (tk : Nat), SetS prog w h' s.heap.objs.size (metS ks) → (∀ b o, s.heap.get? b = some o → h'.get? b = some o) → Q (.ref s.heap.objs.size) { s with heap := h', toks := tk }) :
    wpAny (model prog w) A (call (.type "set") [.ref l]) Q E s := by
  have hsz : items.size = ks.length := by have := StrsAre.len hi; simpa using this
  obtain ⟨c, tl, hmro⟩ := PySem.F.called_set.mro
  have hmade := PySem.F.called_set.made
  have hsub := PySem.F.called_set.sub
  refine wpAny_call (codeAny_of_tree ?_)
  show wpAny _ _ (callAny (.type "set") _) _ _ _
  refine wpAny_pure ⟨Code.quiet_builtin _ (by decide +kernel), codeAny_builtin PySem.F.entry_type_call ?_⟩
  rw [Around.under_plain (weight_type_call_type "set" [.ref l] []) rfl]
  have h1 := PySem.F.called_set.notType
  have h2 := PySem.F.called_set.canCreate
  have hct := PySem.F.typeCall_set_1 (.ref l)
  repeat (any_goals (first | assumption | wp_step))
  refine codeAny_mono (setNewS (.ref l) (E := E) (Q₁ := fun obj s₁ => obj = .ref s.heap.objs.size ∧ s₁ = { s with heap := s.heap.push (bare w) }) ⟨rfl, rfl⟩) fun r s₁ hr => ?_
  cases r with
  | error e => exact hr
  | ok fl =>
    cases fl with
    | ret obj =>
      obtain ⟨rfl, rfl⟩ := hr
      have hS : (s.heap.push (bare w)).get? s.heap.objs.size = some (bare w) := Heap.get?_push_size _ rfl
      have hT : Shared.TypeIs { s with heap := s.heap.push (bare w) } (.ref s.heap.objs.size) "set" := ⟨_, hS, rfl⟩
      have hli := PySem.F.called_set.init.lookup
      have hbi := PySem.F.called_set.init.bind (.ref s.heap.objs.size)
      repeat (any_goals (first | assumption | wp_step))
      refine codeAny_mono (codeAny_call_builtin (R := wants (fun r s₂ => r = .none ∧ ∃ h' tk, s₂ = { s with heap := h', toks := tk } ∧ SetS prog w h' s.heap.objs.size (metS ks) ∧
          (∀ b o, s.heap.get? b = some o → h'.get? b = some o)) E) PySem.F.called_set.init.plain PySem.F.entry_set_init (check_set_init_1 hT ?_)) fun r₂ s₂ hr₂ => ?_
      · obtain ⟨ol, hol, hcl, nl, hdl⟩ := hl
        obtain ⟨ocls, odict, odata, oslots⟩ := ol
        simp only at hcl hdl
        subst hcl; subst hdl
        have hol' : (s.heap.push (bare w)).get? l = some { cls := .type "list", dict := odict, data := .seq items nl, slots := oslots } := Heap.get?_push_of_some _ hol
        have hsls := PySem.F.sub_list_set
        have hslf := PySem.F.sub_list_frozenset
        have hne : (Value.type "list" == Value.type "dict") = false := by decide
        have hl1 : (s.heap.push (bare w)).IsList l items := ⟨_, hol', rfl, nl, rfl⟩
        unfold Builtin.«set.__init__» noKeywords Builtin.Frozenset.updateFrom
        generalize hPI : pyIter = PI
        unfold bare at hS hol' ⊢
        wp_walk
        subst hPI
        refine wpAny_pyIter_list hl1 ?_
        refine wpAny_bind (wpAny_runValue ?_)
        have hlS : l < s.heap.objs.size := Heap.lt_size hol
        have hh3 : A.in1.in1.in1.handled = none := by simp [hh]
        have hneI : l ≠ (s.heap.push (bare w)).objs.size := by rw [Heap.size_push]; exact Nat.ne_of_lt (Nat.lt_succ_of_lt hlS)
        have hSf : s.heap.objs.size ∉ [(s.heap.push (bare w)).objs.size, l] := by
          rw [Heap.size_push]; simp only [List.mem_cons, List.mem_singleton, List.not_mem_nil, or_false, not_or]
          exact ⟨Nat.ne_of_lt (Nat.lt_succ_self _), Nat.ne_of_gt hlS⟩
        refine setLoop ((Walks.list hh3 _ l hneI items).toS) s.heap.objs.size hSf ks hsz.symm (fun i v hv => StrsAre.strAt hi i v (by rw [Array.getElem?_toList]; exact hv)) (by omega) (items.size - 0) 0 _ (by omega) (Nat.zero_le _)
          ⟨⟨_, Heap.get?_push_size _ rfl, rfl, rfl⟩, (hl1.push _)⟩ ?hS0 ?hR
        case hS0 =>
          exact ⟨_, #[], 0, _, Heap.get?_push_of_some _ hS, ⟨rfl, rfl, rfl⟩, rfl, fun e he => by simp at he, ⟨[], .nil, .nil⟩, rfl, rfl, fun h => by simp at h⟩
        case hR =>
          intro s' hm hS'
          obtain ⟨h', g', d', tk', os'⟩ := s'
          have eg : g' = s.gens := hm.gens
          have ed : d' = s.drawn := hm.drawn
          have eo : os' = s.os := hm.os
          subst eg; subst ed; subst eo
          show wpAny _ _ _ _ _ _
          refine wpAny_pure ?_
          show wpAny _ _ (ret Value.none) _ _ _
          refine wpAny_pure ⟨rfl, h', tk', rfl, hS', fun b o e => ?_⟩
          have hb := Heap.lt_size e
          have hb1 : b ≠ s.heap.objs.size := Nat.ne_of_lt hb
          have hb2 : b ≠ (s.heap.push (bare w)).objs.size := by rw [Heap.size_push]; exact Nat.ne_of_lt (Nat.lt_succ_of_lt hb)
          exact hm.heap b o (by simp only [List.mem_cons, List.mem_singleton, List.not_mem_nil, or_false, not_or]; exact ⟨hb1, hb2⟩) (Heap.get?_push_of_some _ (Heap.get?_push_of_some _ e))
      · cases r₂ with
        | error e => exact hr₂
        | ok fl₂ =>
          cases fl₂ with
          | ret r =>
            obtain ⟨rfl, h', tk, rfl, hS', hk'⟩ := hr₂
            repeat (any_goals (first | assumption | wp_step))
            exact h _ _ hS' hk'
          | _ => exact hr₂.elim
    | _ => exact hr.elim
end
end Mine
end

section
open PySem PySem.W PyProof.Rows PySem.Calls PyProof PySem.Spec
set_option Elab.async false
set_option maxRecDepth 100000
set_option linter.unusedVariables false
namespace Mine
theorem cons_erase {α : Type} : ∀ (l : List α) (i : Nat) (h : i < l.length), (l[i] :: l.eraseIdx i).Perm l
  | x :: l, 0, h => by simp
  | x :: l, i + 1, h => by
    have := cons_erase l i (by simpa using h)
    simp only [List.getElem_cons_succ, List.eraseIdx_cons_succ]
    exact (List.Perm.swap _ _ _).trans (this.cons x)
section
variable {M : Model} {A : Around} {E : Value → Shared → Prop}
theorem chooseN {src : Source} {n : Nat} {s : Shared} {Q : Nat → Shared → Prop} (hn : n ≠ 0) (h : ∀ i d, i < n → Q i { s with drawn := d }) : wpAny M A (choose src n) Q E s :=
  fun Γ p _ => ⟨hn, h _ _ (Nat.mod_lt _ (Nat.pos_of_ne_zero hn))⟩
theorem drawnN {α : Type} : ∀ (n : Nat) (xs : List α) (s : Shared) (Q : List α → Shared → Prop), xs.length = n → (∀ ys d, ys.Perm xs → Q ys { s with drawn := d }) → wpAny M A (drawOrder n xs) Q E s
  | 0, xs, s, Q, h, hq => by
    have : xs = [] := List.length_eq_zero_iff.mp h
    subst this
    unfold drawOrder
    exact wpAny_pure (hq [] s.drawn .nil)
  | n + 1, [], s, Q, h, hq => by cases h
  | n + 1, x :: xs, s, Q, h, hq => by
    unfold drawOrder
    refine wpAny_bind (chooseN (by simp) fun i d hi => ?_)
    have e : (x :: xs)[i]? = some (x :: xs)[i] := List.getElem?_eq_getElem hi
    rw [e]
    dsimp only
    refine wpAny_bind (drawnN n _ _ _ (by rw [List.length_eraseIdx_of_lt hi]; omega) fun ys d' hp => wpAny_pure ?_)
    exact hq _ d' ((hp.cons _).trans (cons_erase _ _ hi))
end
theorem pickGo {α : Type} (next : Nat → Nat) : ∀ (fuel k : Nat) (left : List α) (out : Array α), left.length = fuel → (pickOrder.go next fuel k left out).toList.Perm (out.toList ++ left)
  | 0, k, left, out, h => by
    have : left = [] := List.length_eq_zero_iff.mp h
    subst this; simp [pickOrder.go]
  | fuel + 1, k, left, out, h => by
    have hi : next k % left.length < left.length := Nat.mod_lt _ (by omega)
    unfold pickOrder.go
    rw [List.getElem?_eq_getElem hi]
    dsimp only
    refine (pickGo next fuel (k + 1) _ _ (by rw [List.length_eraseIdx_of_lt hi]; omega)).trans ?_
    rw [Array.toList_push, List.append_assoc]
    exact (cons_erase left _ hi).append_left _
theorem pick_perm {α : Type} (next : Nat → Nat) (xs : Array α) : (pickOrder next xs).toList.Perm xs.toList := by
  have := pickGo next xs.size 0 xs.toList #[] (by simp)
  simpa [pickOrder] using this
theorem slot_setit_next : Slot "set_iterator" "__next__" "set_iterator.__next__" :=
  .of (owner := "set_iterator") (n := "__next__") (by rw [typeLookup_type, builtinLookup_eq_fast]; kernel_rfl) (by decide +kernel) (by decide +kernel) (by decide +kernel)
    (by first | exact .inl (by decide +kernel) | exact .inr (by decide +kernel)) (by rw [isSubtype_type]; kernel_rfl)
theorem slot_setit_iter : Slot "set_iterator" "__iter__" "set_iterator.__iter__" :=
  .of (owner := "set_iterator") (n := "__iter__") (by rw [typeLookup_type, builtinLookup_eq_fast]; kernel_rfl) (by decide +kernel) (by decide +kernel) (by decide +kernel)
    (by first | exact .inl (by decide +kernel) | exact .inr (by decide +kernel)) (by rw [isSubtype_type]; kernel_rfl)
theorem entry_setit_next : entryFor table "set_iterator.__next__" = some Builtin.«set_iterator.__next__» := entryFor_of_tree (by kernel_rfl)
theorem entry_setit_iter : entryFor table "set_iterator.__iter__" = some Builtin.«dict_keyiterator.__iter__» :=
  entryFor_alias (id' := "dict_keyiterator.__iter__") (by kernel_rfl) (by decide +kernel) (by decide +kernel) (by kernel_rfl)
theorem entry_set_iter' : entryFor table "set.__iter__" = some Builtin.«frozenset.__iter__» :=
  entryFor_alias (id' := "frozenset.__iter__") (by kernel_rfl) (by decide +kernel) (by decide +kernel) (by kernel_rfl)
theorem owner_setit : Manifest.owners.lookup (String.ofList ['r', 'o', 't', 'a', 'r', 'e', 't', 'i', '_', 't', 'e', 's'].reverse) = some Manifest.sig_set_iterator := by kernel_rfl
theorem args_setit_next (a : Value) : argsOk "set_iterator.__next__" ⟨[a], []⟩ := by
  unfold argsOk; rw [signature?_of (id := "set_iterator.__next__") (n := ['_', '_', 't', 'x', 'e', 'n', '_', '_']) (o := ['r', 'o', 't', 'a', 'r', 'e', 't', 'i', '_', 't', 'e', 's']) (by kernel_rfl) owner_setit]; kernel_rfl
theorem args_setit_iter (a : Value) : argsOk "set_iterator.__iter__" ⟨[a], []⟩ := by
  unfold argsOk; rw [signature?_of (id := "set_iterator.__iter__") (n := ['_', '_', 'r', 'e', 't', 'i', '_', '_']) (o := ['r', 'o', 't', 'a', 'r', 'e', 't', 'i', '_', 't', 'e', 's']) (by kernel_rfl) owner_setit]; kernel_rfl
noncomputable def ItAt (h : Heap) (I S : Addr) (f : Value) (i n ep : Nat) : Prop := ∃ o, h.get? I = some o ∧ o.cls = .type "set_iterator" ∧ o.data = .fields #[f, .int i 0, .ref S, .int n 0, .int ep 0]
theorem ItAt.typeIs {s : Shared} {I S : Addr} {f : Value} {i n ep : Nat} (x : ItAt s.heap I S f i n ep) : s.TypeIs (.ref I) "set_iterator" := let ⟨o, ho, hc, _⟩ := x; ⟨o, ho, hc⟩
theorem ItAt.at {h h' : Heap} {I S : Addr} {f : Value} {i n ep : Nat} (x : ItAt h I S f i n ep) (e : ∀ o, h.get? I = some o → h'.get? I = some o) : ItAt h' I S f i n ep := let ⟨o, ho, r⟩ := x; ⟨o, e _ ho, r⟩
section
variable {prog : Program} {w : World} {A : Around} {E : Value → Shared → Prop} {s : Shared} {I S : Addr} {n ep : Nat} {oS : Obj} {es : Array (Int × Value)} {t : SetTable}
theorem iterSelf {f : Value} {i : Nat} {Q : Value → Shared → Prop} (hit : ItAt s.heap I S f i n ep) (h : Q (.ref I) s) : wpAny (model prog w) A (pyIter (.ref I)) Q E s := by
  refine wpAny_pyIter_slot hit.typeIs slot_setit_iter (wpAny_call_entry slot_setit_iter hit.typeIs entry_setit_iter ?_ (args_setit_iter _))
  show wpAny _ _ (ret (.ref I)) _ _ s
  exact wpAny_pure ⟨_, rfl, "set_iterator", _, hit.typeIs, slot_setit_next.lookup, h⟩
theorem nextInt {slot i j : Nat} {x : Value} {Q : Option Value → Shared → Prop} (hit : ItAt s.heap I S (.int slot 0) i n ep) (ho : s.heap.get? S = some oS) (hd : oS.data = .set es ep t) (hf : t.fits es.size = true) (hn : es.size = n)
    (hnx : ∀ A (E : Value → Shared → Prop) (Q : Option (Value × Nat) → Shared → Prop), Q (some (x, j)) s → wpAny (model prog w) A (setNext S slot i ep) Q E s)
    (hQ : ∀ h', ItAt h' I S (.int j 0) (i + 1) n ep → Heap.SameBut I s.heap h' → Q (some x) { s with heap := h' }) : wpAny (model prog w) A (pyNext (.ref I)) Q E s := by
  obtain ⟨o, hoI, hcI, hdI⟩ := id hit
  unfold pyNext
  refine wpAny_bind (wpAny_attempt (wpAny_callSpecial?_slot (name := Str.ofString "__next__") hit.typeIs slot_setit_next
    (wpAny_call_entry slot_setit_next hit.typeIs entry_setit_next ?_ (args_setit_next _))))
  unfold Builtin.«set_iterator.__next__»
  refine wpAny_bind (wpAny_pure ?_)
  dsimp only
  refine wpAny_bind (wpAny_fieldsOf hoI hdI ?_)
  dsimp only
  refine wpAny_bind (wpAny_setEntries_of ho hd hf ?_)
  rw [if_neg (by rw [hn]; simp)]
  refine wpAny_bind (hnx _ _ _ ?_)
  dsimp only
  refine wpAny_bind (wpAny_setField hoI hdI (by simp) ?_)
  have ho1 := Heap.get?_update_self (Obj.mapFields (·.setIfInBounds 0 (rawInt j))) hoI (Obj.isFreed_of_fields (Obj.data_mapFields hdI _))
  refine wpAny_bind (wpAny_setField ho1 (Obj.data_mapFields hdI _) (by simp) ?_)
  have ho2 := Heap.get?_update_self (Obj.mapFields (·.setIfInBounds 1 (rawInt ((i : Int) + 1)))) ho1 (Obj.isFreed_of_fields (Obj.data_mapFields (Obj.data_mapFields hdI _) _))
  refine wpAny_pure ⟨_, rfl, ?_⟩
  refine wpAny_pure ?_
  refine hQ _ ⟨_, ho2, ?_, ?_⟩ ((Heap.SameBut.update ..).trans (Heap.SameBut.update ..))
  · rw [Obj.cls_mapFields, Obj.cls_mapFields]; exact hcI
  · rw [Obj.data_mapFields (Obj.data_mapFields hdI _)]; simp [rawInt]
end
end Mine
end

section
open PySem PySem.W PyProof.Rows PySem.Calls PyProof PySem.Spec
set_option Elab.async false
set_option maxRecDepth 100000
set_option linter.unusedVariables false
namespace Mine
section
variable {prog : Program} {w : World} {A : Around} {E : Value → Shared → Prop} {s : Shared} {I S : Addr} {n ep : Nat} {oS : Obj} {es : Array (Int × Value)} {t : SetTable}
theorem nextIntEnd {slot i : Nat} {Q : Option Value → Shared → Prop} (hh : A.handled = none) (hit : ItAt s.heap I S (.int slot 0) i n ep) (ho : s.heap.get? S = some oS) (hd : oS.data = .set es ep t) (hf : t.fits es.size = true) (hn : es.size = n)
    (hnx : ∀ A (E : Value → Shared → Prop) (Q : Option (Value × Nat) → Shared → Prop), Q none s → wpAny (model prog w) A (setNext S slot i ep) Q E s)
    (hQ : ∀ h', Heap.ExtBut I s.heap h' → Q none { s with heap := h' }) : wpAny (model prog w) A (pyNext (.ref I)) Q E s := by
  obtain ⟨o, hoI, hcI, hdI⟩ := id hit
  unfold pyNext
  refine wpAny_bind (wpAny_attempt (wpAny_callSpecial?_slot (name := Str.ofString "__next__") hit.typeIs slot_setit_next
    (wpAny_call_entry slot_setit_next hit.typeIs entry_setit_next ?_ (args_setit_next _))))
  unfold Builtin.«set_iterator.__next__»
  refine wpAny_bind (wpAny_pure ?_)
  dsimp only
  refine wpAny_bind (wpAny_fieldsOf hoI hdI ?_)
  dsimp only
  refine wpAny_bind (wpAny_setEntries_of ho hd hf ?_)
  rw [if_neg (by rw [hn]; simp)]
  refine wpAny_bind (hnx _ _ _ ?_)
  dsimp only
  refine wpAny_bind (wpAny_setField hoI hdI (by simp) ?_)
  refine wpAny_bind ?_
  simp only [newExc, newTuple]
  refine wpAny_bind (wpAny_newObj_type ?_ (by size_fits))
  refine wpAny_bind (m := firstArgMember _ _) (wpAny_of_eq (a := Value.none) (by first | rfl | (simp only [firstArgMember]; rfl)) ?_)
  refine wpAny_newObj_type ?_ (by size_fits)
  simp only [raiseNew]
  refine wpAny_bind (wpAny_handled ?_)
  rw [show A.in1.handled = none from hh]
  refine wpAny_bind (wpAny_pure (wpAny_throw ?_))
  refine wpAny_bind (wpAny_isInstance (T := "StopIteration") (b := true) ⟨_, Heap.get?_push_size _ rfl, rfl⟩ isSubtype_stop ?_)
  exact wpAny_pure (hQ _ (((Heap.SameBut.update ..).extBut.push _).push _))
theorem nextRef {p : Addr} {op : Obj} {pl : Array Value} {np i j : Nat} {x : Int × Value} {Q : Option Value → Shared → Prop} (hit : ItAt s.heap I S (.ref p) i n ep) (ho : s.heap.get? S = some oS) (hd : oS.data = .set es ep t) (hf : t.fits es.size = true) (hn : es.size = n)
    (hp : s.heap.get? p = some op) (hpd : op.data = .seq pl np) (hj : pl[i]? = some (.int j 0)) (hx : es[j]? = some x)
    (hQ : ∀ h', ItAt h' I S (.ref p) (i + 1) n ep → Heap.SameBut I s.heap h' → Q (some x.2) { s with heap := h' }) : wpAny (model prog w) A (pyNext (.ref I)) Q E s := by
  obtain ⟨o, hoI, hcI, hdI⟩ := id hit
  unfold pyNext
  refine wpAny_bind (wpAny_attempt (wpAny_callSpecial?_slot (name := Str.ofString "__next__") hit.typeIs slot_setit_next
    (wpAny_call_entry slot_setit_next hit.typeIs entry_setit_next ?_ (args_setit_next _))))
  unfold Builtin.«set_iterator.__next__»
  refine wpAny_bind (wpAny_pure ?_)
  dsimp only
  refine wpAny_bind (wpAny_fieldsOf hoI hdI ?_)
  dsimp only
  refine wpAny_bind (wpAny_setEntries_of ho hd hf ?_)
  rw [if_neg (by rw [hn]; simp)]
  refine wpAny_bind (wpAny_seqItems hp hpd ?_)
  dsimp only
  simp only [Int.toNat_natCast]
  rw [hj]
  dsimp only
  refine wpAny_bind ?_
  unfold setNextDrawn
  refine wpAny_bind (wpAny_setState_of ho hd hf ?_)
  dsimp only
  rw [if_neg (by simp)]
  simp only [Int.toNat_natCast]
  rw [hx]
  refine wpAny_pure ?_
  refine wpAny_bind (wpAny_setField hoI hdI (by simp) ?_)
  have ho2 := Heap.get?_update_self (Obj.mapFields (·.setIfInBounds 1 (rawInt ((i : Int) + 1)))) hoI (Obj.isFreed_of_fields (Obj.data_mapFields hdI _))
  refine wpAny_pure ⟨_, rfl, ?_⟩
  refine wpAny_pure ?_
  refine hQ _ ⟨_, ho2, ?_, ?_⟩ (Heap.SameBut.update ..)
  · rw [Obj.cls_mapFields]; exact hcI
  · rw [Obj.data_mapFields hdI]; simp [rawInt]
theorem nextRefEnd {p : Addr} {op : Obj} {pl : Array Value} {np i : Nat} {Q : Option Value → Shared → Prop} (hh : A.handled = none) (hit : ItAt s.heap I S (.ref p) i n ep) (ho : s.heap.get? S = some oS) (hd : oS.data = .set es ep t) (hf : t.fits es.size = true) (hn : es.size = n)
    (hp : s.heap.get? p = some op) (hpd : op.data = .seq pl np) (hj : pl[i]? = none)
    (hQ : ∀ h', Heap.ExtBut I s.heap h' → Q none { s with heap := h' }) : wpAny (model prog w) A (pyNext (.ref I)) Q E s := by
  obtain ⟨o, hoI, hcI, hdI⟩ := id hit
  unfold pyNext
  refine wpAny_bind (wpAny_attempt (wpAny_callSpecial?_slot (name := Str.ofString "__next__") hit.typeIs slot_setit_next
    (wpAny_call_entry slot_setit_next hit.typeIs entry_setit_next ?_ (args_setit_next _))))
  unfold Builtin.«set_iterator.__next__»
  refine wpAny_bind (wpAny_pure ?_)
  dsimp only
  refine wpAny_bind (wpAny_fieldsOf hoI hdI ?_)
  dsimp only
  refine wpAny_bind (wpAny_setEntries_of ho hd hf ?_)
  rw [if_neg (by rw [hn]; simp)]
  refine wpAny_bind (wpAny_seqItems hp hpd ?_)
  dsimp only
  simp only [Int.toNat_natCast]
  rw [hj]
  dsimp only
  refine wpAny_bind (wpAny_setField hoI hdI (by simp) ?_)
  have ho1 := Heap.get?_update_self (Obj.mapFields (·.setIfInBounds 0 (rawInt 0))) hoI (Obj.isFreed_of_fields (Obj.data_mapFields hdI _))
  refine wpAny_bind (wpAny_setField ho1 (Obj.data_mapFields hdI _) (by simp) ?_)
  refine wpAny_bind ?_
  simp only [newExc, newTuple]
  refine wpAny_bind (wpAny_newObj_type ?_ (by size_fits))
  refine wpAny_bind (m := firstArgMember _ _) (wpAny_of_eq (a := Value.none) (by first | rfl | (simp only [firstArgMember]; rfl)) ?_)
  refine wpAny_newObj_type ?_ (by size_fits)
  simp only [raiseNew]
  refine wpAny_bind (wpAny_handled ?_)
  rw [show A.in1.handled = none from hh]
  refine wpAny_bind (wpAny_pure (wpAny_throw ?_))
  refine wpAny_bind (wpAny_isInstance (T := "StopIteration") (b := true) ⟨_, Heap.get?_push_size _ rfl, rfl⟩ isSubtype_stop ?_)
  exact wpAny_pure (hQ _ ((((Heap.SameBut.update ..).trans (Heap.SameBut.update ..)).extBut.push _).push _))
theorem byTextS {b : Bool} {Q : Bool → Shared → Prop} (hw : w.params.followText "set-order" = b) (h : Q b s) : wpAny (model prog w) A setsByText Q E s := by
  unfold setsByText
  exact wpAny_bind (wpAny_askSetting (wpAny_pure (by subst hw; exact h)))
theorem nextText {slot i : Nat} {Q : Option (Value × Nat) → Shared → Prop} (hw : w.params.followText "set-order" = true) (ho : s.heap.get? S = some oS) (hd : oS.data = .set es ep t) (hf : t.fits es.size = true)
    (h : Q (((pickOrder (w.params.setOrder S ep) es)[i]?).map fun e => (e.2, slot)) s) : wpAny (model prog w) A (setNext S slot i ep) Q E s := by
  unfold setNext
  refine wpAny_bind (wpAny_setState_of ho hd hf ?_)
  dsimp only
  refine wpAny_bind (byTextS hw ?_)
  rw [if_pos rfl, if_neg (by simp)]
  refine wpAny_bind ?_
  unfold setWalk
  refine wpAny_bind (wpAny_setState_of ho hd hf ?_)
  dsimp only
  refine wpAny_bind (byTextS hw ?_)
  rw [if_pos rfl]
  refine wpAny_bind (wpAny_askSetting (wpAny_pure (wpAny_pure h)))
theorem nextSmall {slot i : Nat} {Q : Option (Value × Nat) → Shared → Prop} (hw : w.params.followText "set-order" = false) (ho : s.heap.get? S = some oS) (hd : oS.data = .set es ep t) (hf : t.fits es.size = true) (hl : t.led = true) (hz : es.size ≤ 1)
    (h : Q (match es[SetTable.below t.place slot]?, t.place[SetTable.below t.place slot]? with | some (_, x), some j => some (x, j + 1) | _, _ => none) s) : wpAny (model prog w) A (setNext S slot i ep) Q E s := by
  unfold setNext
  refine wpAny_bind (wpAny_setState_of ho hd hf ?_)
  dsimp only
  refine wpAny_bind (byTextS hw ?_)
  rw [if_neg (by decide)]
  have hdr : ¬ ((!t.plain && decide (es.size > 1)) = true) := by simp; omega
  refine wpAny_ite_split (fun hab => absurd hab hdr) (fun _ => ?_)
  refine wpAny_bind ?_
  show wpAny _ _ (if (!t.led && !es.isEmpty) = true then unsupported _ else pure ()) _ _ _
  rw [if_neg (by rw [hl]; simp)]
  exact wpAny_pure (wpAny_pure h)
end
end Mine
end

section
open PySem PySem.W PyProof.Rows PySem.Calls PyProof PySem.Spec
set_option Elab.async false
set_option maxRecDepth 100000
set_option linter.unusedVariables false
namespace Mine
section
variable {prog : Program} {w : World} {A : Around} {I S : Addr} {ep : Nat} {oS : Obj} {es : Array (Int × Value)} {t : SetTable}
theorem walkInt (hh : A.handled = none) (hne : S ≠ I) (hd : oS.data = .set es ep t) (hf : t.fits es.size = true) (vs : List Value) (sl : Nat → Nat)
    (hitem : ∀ i v, vs[i]? = some v → ∀ A (E : Value → Shared → Prop) (s : Shared) (Q : Option (Value × Nat) → Shared → Prop), s.heap.get? S = some oS → Q (some (v, sl (i + 1))) s → wpAny (model prog w) A (setNext S (sl i) i ep) Q E s)
    (hend : ∀ A (E : Value → Shared → Prop) (s : Shared) (Q : Option (Value × Nat) → Shared → Prop), s.heap.get? S = some oS → Q none s → wpAny (model prog w) A (setNext S (sl vs.length) vs.length ep) Q E s) :
    Walks prog w A I [I, S] [I] vs.length (fun i v => vs[i]? = some v) (fun i h => ItAt h I S (.int (sl i) 0) i es.size ep ∧ h.get? S = some oS) where
  sub := fun b hb => by simp at hb; simp [hb]
  frame := fun _ _ _ st hk => ⟨st.1.at fun o e => hk I (by simp) o e, hk S (by simp) _ st.2⟩
  item := fun i s Q E hi st hQ => by
    have e : vs[i]? = some vs[i] := List.getElem?_eq_getElem hi
    refine nextInt st.1 st.2 hd hf rfl (fun A E Q hq => hitem i _ e A E s Q st.2 hq) fun h' hit' hs' => ?_
    exact hQ _ h' s.toks e ⟨hit', hs'.extBut S _ hne st.2⟩ fun b o hb e => hs'.extBut b o (fun h => hb (by simp [h])) e
  done := fun s Q E st hQ => nextIntEnd hh st.1 st.2 hd hf rfl (fun A E Q hq => hend A E s Q st.2 hq) fun h' he' => hQ h' s.toks fun b o hb e => he' b o (fun h => hb (by simp [h])) e
  self := fun _ _ _ _ st hQ => iterSelf st.1 hQ
noncomputable def atS (es : Array (Int × Value)) (j : Nat) : Value := match es[j]? with | some x => x.2 | none => .none
theorem walkRef {p : Addr} {op : Obj} {np : Nat} (hh : A.handled = none) (hne : S ≠ I) (hpe : p ≠ I) (hd : oS.data = .set es ep t) (hf : t.fits es.size = true) (ys : List Nat) (hys : ys.Perm (List.range es.size)) (hpd : op.data = .seq (ys.map fun (i : Nat) => rawInt i).toArray np) :
    Walks prog w A I [I, S, p] [I] (ys.map (atS es)).length (fun i v => (ys.map (atS es))[i]? = some v) (fun i h => ItAt h I S (.ref p) i es.size ep ∧ h.get? S = some oS ∧ h.get? p = some op) where
  sub := fun b hb => by simp at hb; simp [hb]
  frame := fun _ _ _ st hk => ⟨st.1.at fun o e => hk I (by simp) o e, hk S (by simp) _ st.2.1, hk p (by simp) _ st.2.2⟩
  item := fun i s Q E hi st hQ => by
    have hi' : i < ys.length := by simpa using hi
    have hj : ys[i] < es.size := List.mem_range.mp (hys.mem_iff.mp (List.getElem_mem hi'))
    have ex : es[ys[i]]? = some es[ys[i]] := Array.getElem?_eq_getElem hj
    have e : (ys.map (atS es))[i]? = some (es[ys[i]].2) := by
      rw [List.getElem?_map, List.getElem?_eq_getElem hi']; simp [atS, ex]
    refine nextRef st.1 st.2.1 hd hf rfl st.2.2 hpd (j := ys[i]) (by simp [hi', rawInt]) ex fun h' hit' hs' => ?_
    exact hQ _ h' s.toks e ⟨hit', hs'.extBut S _ hne st.2.1, hs'.extBut p _ hpe st.2.2⟩ fun b o hb e => hs'.extBut b o (fun h => hb (by simp [h])) e
  done := fun s Q E st hQ => nextRefEnd hh st.1 st.2.1 hd hf rfl st.2.2 hpd (by simp) fun h' he' => hQ h' s.toks fun b o hb e => he' b o (fun h => hb (by simp [h])) e
  self := fun _ _ _ _ st hQ => iterSelf st.1 hQ
theorem atS_range (es : Array (Int × Value)) : (List.range es.size).map (atS es) = es.toList.map (·.2) := by
  apply List.ext_getElem
  · simp
  · intro i h1 h2
    have hi : i < es.size := by simpa using h1
    simp [atS, Array.getElem?_eq_getElem hi]
theorem below1_0 {j : Nat} : SetTable.below #[j] 0 = 0 := by simp [SetTable.below, SetTable.below.go]
theorem below1_s {j : Nat} : SetTable.below #[j] (j + 1) = 1 := by simp [SetTable.below, SetTable.below.go]
theorem below0 {j : Nat} : SetTable.below #[] j = 0 := by simp [SetTable.below, SetTable.below.go]
end
section
variable {prog : Program} {w : World} {A : Around} {E : Value → Shared → Prop} {s : Shared} {S : Addr} {ks : List Str}
theorem iterSet {Q : Value → Shared → Prop} (hS : SetS prog w s.heap S ks) (hb : ks.length < scanBound)
    (hQ : ∀ I fp h' d vs St, (∀ A : Around, A.handled = none → Walks prog w A I fp [I] vs.length (fun i v => vs[i]? = some v) St) → St 0 h' → (∃ ss, StrsAre vs ss ∧ ss.Perm ks) → (∀ b o, s.heap.get? b = some o → h'.get? b = some o) →
      s.heap.objs.size ≤ I → (∀ b ∈ fp, b = S ∨ s.heap.objs.size ≤ b) → Q (.ref I) { s with heap := h', drawn := d }) : wpAny (model prog w) A (pyIter (.ref S)) Q E s := by
  obtain ⟨o, es, ep, t, ho, hex, hd, hel, ⟨l, hl, hst⟩, hf, hled, hpl⟩ := hS
  have hT : s.TypeIs (.ref S) "set" := ⟨o, ho, hex.1⟩
  have hlt : S < s.heap.objs.size := Heap.lt_size ho
  have hsz : es.size = ks.length := by rw [← Array.length_toList, hl.length_eq, ← List.length_map (f := (·.2)), StrsAre.len hst]
  obtain ⟨ss0, hs0, hs0p⟩ := StrsAre.perm (hl.map (·.2)) hst
  have hall : ∀ vs : List Value, vs.Perm (es.toList.map (·.2)) → ∃ ss, StrsAre vs ss ∧ ss.Perm ks := fun vs hp => by
    obtain ⟨ss, h1, h2⟩ := StrsAre.perm hp hs0
    exact ⟨ss, h1, h2.trans hs0p⟩
  refine wpAny_pyIter_slot hT PySem.F.slot_set_iter (wpAny_call_entry PySem.F.slot_set_iter hT entry_set_iter' ?_ (PySem.F.args_set_iter_1 _))
  unfold Builtin.«frozenset.__iter__» Builtin.Frozenset.slot0
  refine wpAny_bind (m := _ >>= _) (wpAny_bind (m := slotArgs _ _ _) (wpAny_pure (wpAny_pure ?_)))
  unfold Builtin.Frozenset.sizeOf
  refine wpAny_bind (wpAny_bind (wpAny_setEntries_of ho hd hf (wpAny_pure ?_)))
  cases hw : w.params.followText "set-order" with
  | true =>
    refine wpAny_bind ?_
    unfold setDrawn
    refine wpAny_bind (wpAny_setState_of ho hd hf ?_)
    dsimp only
    refine wpAny_bind (byTextS hw (wpAny_pure ?_))
    refine wpAny_ite_split (fun hab => absurd hab (by simp)) (fun _ => ?_)
    refine wpAny_bind (wpAny_pure ?_)
    refine wpAny_bind (wpAny_setEpoch_of ho hd hf ?_)
    refine wpAny_bind (wpAny_newObj_type (wpAny_pure ⟨_, rfl, "set_iterator", _, ⟨_, Heap.get?_push_size _ rfl, rfl⟩, slot_setit_next.lookup, ?_⟩))
    refine hQ s.heap.objs.size [s.heap.objs.size, S] _ s.drawn ((pickOrder (w.params.setOrder S ep) es).toList.map (·.2)) _ (fun A hh => walkInt hh (Nat.ne_of_lt hlt) hd hf _ (fun _ => 0) ?_ ?_) ⟨⟨_, Heap.get?_push_size _ rfl, rfl, rfl⟩, Heap.get?_push_of_some _ ho⟩ (hall _ ((pick_perm _ _).map _)) (fun b o e => Heap.get?_push_of_some _ e) (Nat.le_refl _) ?_
    · intro i v e A E s' Q h1 hq
      refine nextText hw h1 hd hf ?_
      rw [List.getElem?_map, Array.getElem?_toList] at e
      cases hx : (pickOrder (w.params.setOrder S ep) es)[i]? with
      | none => rw [hx] at e; cases e
      | some x => rw [hx] at e; cases e; exact hq
    · intro A E s' Q h1 hq
      refine nextText hw h1 hd hf ?_
      have : (pickOrder (w.params.setOrder S ep) es)[((pickOrder (w.params.setOrder S ep) es).toList.map (·.2)).length]? = none := by simp
      rw [this]; exact hq
    · intro b hb; simp only [List.mem_cons, List.not_mem_nil, or_false] at hb
      rcases hb with rfl | rfl
      · exact .inr (Nat.le_refl _)
      · exact .inl rfl
  | false =>
    have hled' : t.led = true := by rw [hled, hw]; rfl
    by_cases hz : es.size ≤ 1
    · have hdr : ¬ ((!false && (!t.plain && decide (es.size > 1))) = true) := by simp; omega
      refine wpAny_bind ?_
      unfold setDrawn
      refine wpAny_bind (wpAny_setState_of ho hd hf ?_)
      dsimp only
      refine wpAny_bind (byTextS hw (wpAny_pure ?_))
      refine wpAny_ite_split (fun hab => absurd hab hdr) (fun _ => ?_)
      refine wpAny_bind (wpAny_pure ?_)
      refine wpAny_bind (wpAny_setEpoch_of ho hd hf ?_)
      refine wpAny_bind (wpAny_newObj_type (wpAny_pure ⟨_, rfl, "set_iterator", _, ⟨_, Heap.get?_push_size _ rfl, rfl⟩, slot_setit_next.lookup, ?_⟩))
      have hpz : t.place.size = es.size := by
        simp only [SetTable.fits, Bool.and_eq_true, beq_iff_eq] at hf; exact hf.1
      refine hQ s.heap.objs.size [s.heap.objs.size, S] _ s.drawn (es.toList.map (·.2)) _ (fun A hh => walkInt hh (Nat.ne_of_lt hlt) hd hf _ (fun i => if i = 0 then 0 else t.place[0]?.getD 0 + 1) ?_ ?_) ⟨⟨_, Heap.get?_push_size _ rfl, rfl, rfl⟩, Heap.get?_push_of_some _ ho⟩ (hall _ (.refl _)) (fun b o e => Heap.get?_push_of_some _ e) (Nat.le_refl _) ?_
      · intro i v e A E s' Q h1 hq
        refine nextSmall hw h1 hd hf hled' hz ?_
        rw [List.getElem?_map, Array.getElem?_toList] at e
        have hi : i = 0 := by
          cases hx : es[i]? with
          | none => rw [hx] at e; cases e
          | some x => have := (Array.getElem?_eq_some_iff.mp hx).1; omega
        subst hi
        cases hx : es[0]? with
        | none => rw [hx] at e; cases e
        | some x =>
          rw [hx] at e; cases e
          have h1' : es.size = 1 := by have := (Array.getElem?_eq_some_iff.mp hx).1; omega
          obtain ⟨j, hj⟩ : ∃ j, t.place = #[j] := by
            have hps : t.place.size = 1 := by omega
            refine ⟨t.place[0], ?_⟩
            apply Array.ext
            · simp [hps]
            · intro i h1 h2; have : i = 0 := by omega
              subst this; rfl
          simp only [if_true]
          rw [hj, below1_0, hx]
          rw [hj] at hq
          simpa using hq
      · intro A E s' Q h1 hq
        refine nextSmall hw h1 hd hf hled' hz ?_
        by_cases h0 : es.size = 0
        · have hps : t.place = #[] := by apply Array.eq_empty_of_size_eq_zero; omega
          have hes : es = #[] := Array.eq_empty_of_size_eq_zero h0
          subst hes
          rw [hps, below0]; simpa using hq
        · have h1' : es.size = 1 := by omega
          obtain ⟨j, hj⟩ : ∃ j, t.place = #[j] := by
            have hps : t.place.size = 1 := by omega
            refine ⟨t.place[0], ?_⟩
            apply Array.ext
            · simp [hps]
            · intro i h1 h2; have : i = 0 := by omega
              subst this; rfl
          have hl1 : (es.toList.map (·.2)).length = 1 := by simp [h1']
          simp only [hl1, Nat.one_ne_zero, if_false]
          rw [hj]
          have e0 : (#[j] : Array Nat)[0]?.getD 0 + 1 = j + 1 := by simp
          rw [e0, below1_s, Array.getElem?_eq_none (by omega)]
          exact hq
      · intro b hb; simp only [List.mem_cons, List.not_mem_nil, or_false] at hb
        rcases hb with rfl | rfl
        · exact .inr (Nat.le_refl _)
        · exact .inl rfl
    · have hpf : t.plain = false := hpl (by omega)
      have hdr : ((!false && (!t.plain && decide (es.size > 1))) = true) := by rw [hpf]; simp; omega
      refine wpAny_bind ?_
      unfold setDrawn
      refine wpAny_bind (wpAny_setState_of ho hd hf ?_)
      dsimp only
      refine wpAny_bind (byTextS hw (wpAny_pure ?_))
      refine wpAny_ite_split (fun _ => ?_) (fun hab => absurd hdr hab)
      refine wpAny_bind (drawnN es.size (List.range es.size) _ _ (by simp) fun ys d hys => ?_)
      have hyl : ys.length = es.size := by rw [hys.length_eq]; simp
      refine wpAny_bind (wpAny_newTuple ?_ (by rw [List.length_map, hyl]; exact fits_of_scanBound (by omega)))
      have ho1 := Heap.get?_push_of_some { cls := .type "tuple", data := .seq (ys.map fun (i : Nat) => rawInt i).toArray } ho
      refine wpAny_bind (wpAny_setEpoch_of ho1 hd hf ?_)
      refine wpAny_bind (wpAny_newObj_type (wpAny_pure ⟨_, rfl, "set_iterator", _, ⟨_, Heap.get?_push_size _ rfl, rfl⟩, slot_setit_next.lookup, ?_⟩))
      have hI : (s.heap.push { cls := .type "tuple", data := .seq (ys.map fun (i : Nat) => rawInt i).toArray }).objs.size = s.heap.objs.size + 1 := Heap.size_push ..
      refine hQ _ [_, S, s.heap.objs.size] _ d (ys.map (atS es)) _ (fun A hh => walkRef (I := (s.heap.push { cls := .type "tuple", data := .seq (ys.map fun (i : Nat) => rawInt i).toArray }).objs.size) hh (by rw [hI]; exact Nat.ne_of_lt (Nat.lt_succ_of_lt hlt)) (by rw [hI]; exact Nat.ne_of_lt (Nat.lt_succ_self _)) hd hf ys hys rfl) ⟨⟨_, Heap.get?_push_size _ rfl, rfl, rfl⟩, Heap.get?_push_of_some _ ho1, Heap.get?_push_of_some _ (Heap.get?_push_size _ rfl)⟩ (hall _ ?_) (fun b o e => Heap.get?_push_of_some _ (Heap.get?_push_of_some _ e)) (by rw [hI]; omega) ?_
      · have := hys.map (atS es); rw [atS_range] at this; exact this
      · intro b hb; simp only [List.mem_cons, List.not_mem_nil, or_false] at hb
        rcases hb with rfl | rfl | rfl
        · exact .inr (by rw [hI]; omega)
        · exact .inl rfl
        · exact .inr (Nat.le_refl _)
end
end Mine
end

section
open PySem PySem.W PyProof.Rows PySem.Calls PyProof PySem.Spec
set_option Elab.async false
set_option maxRecDepth 100000
set_option linter.unusedVariables false
namespace Mine
section
variable {prog : Program} {w : World} {A : Around} {E : Value → Shared → Prop} {s : Shared} {S : Addr} {ks : List Str}
theorem hintSet {Q : Bool → Shared → Prop} (hT : s.TypeIs (.ref S) "set") (h : Q false s) : wpAny (model prog w) A (Builtin.List.listLengthHint (.ref S)) Q E s := by
  unfold Builtin.List.listLengthHint
  refine wpAny_bind (wpAny_specialOf hT PySem.F.slot_set_len.lookup ?_)
  generalize hid : ("set.__len__" : String) = id0
  wp_delta
  rw [show splitId id0 = some ("set", "__len__") from by subst hid; decide +kernel]
  subst hid
  refine wpAny_bind (wpAny_isInstance (T := "set") (b := true) hT (by rw [isSubtype_type]; kernel_rfl) ?_)
  refine wpAny_ite_split (fun hab => absurd hab (by decide)) (fun _ => ?_)
  refine wpAny_ite_split (fun _ => ?_) (fun hab => absurd (by decide +kernel) hab)
  refine wpAny_bind (wpAny_typeOf hT ?_)
  exact wpAny_pure h
theorem SetS.typeIs {s : Shared} (hS : SetS prog w s.heap S ks) : s.TypeIs (.ref S) "set" := by
  obtain ⟨o, es, ep, t, ho, hex, _⟩ := hS; exact ⟨o, ho, hex.1⟩
theorem SetS.lt {h : Heap} (hS : SetS prog w h S ks) : S < h.objs.size := by
  obtain ⟨o, es, ep, t, ho, _⟩ := hS; exact Heap.lt_size ho
theorem items_eq {acc : Array Value} {vs : List Value} (h : ItemsOf (fun i v => vs[i]? = some v) acc vs.length) : acc.toList = vs := by
  apply List.ext_getElem
  · simpa using h.1
  · intro i h1 h2
    have hi : i < acc.size := by simpa using h1
    have : vs[i]? = some acc[i] := h.2 i acc[i] (Array.getElem?_eq_getElem hi)
    rw [List.getElem?_eq_getElem h2] at this
    simpa using (Option.some.inj this).symm
theorem collectS {Q : List Value → Shared → Prop} (hh : A.handled = none) (hS : SetS prog w s.heap S ks) (hb : ks.length < 64)
    (hQ : ∀ h' tk d vs ss, (∀ b o, s.heap.get? b = some o → h'.get? b = some o) → StrsAre vs ss → ss.Perm ks → Q vs { s with heap := h', toks := tk, drawn := d }) :
    wpAny (model prog w) A (collect (.ref S)) Q E s := by
  have hlt := hS.lt
  have hL : (s.heap.push { cls := .type "list", data := .seq ([] : List Value).toArray }).get? s.heap.objs.size = some { cls := .type "list", data := .seq #[] 0 } := Heap.get?_push_size _ rfl
  have hS1 : SetS prog w (s.heap.push { cls := .type "list", data := .seq ([] : List Value).toArray }) S ks := hS.at fun o e => Heap.get?_push_of_some _ e
  unfold collect
  refine wpAny_bind (wpAny_runValue (codeAny_builtin PySem.F.entry_proto_collect ?_))
  rw [Around.under_plainId PySem.F.plain_proto_collect _]
  show wpAny _ A.in1 (newList [] >>= fun l => again (.builtin "list.__iadd__" ⟨[l, .ref S], []⟩)) _ _ s
  refine wpAny_bind (wpAny_newObj_type ?_)
  refine wpAny_pure ⟨plainId_quiet PySem.F.plain_list_iadd _, codeAny_builtin PySem.F.entry_list_iadd ?_⟩
  rw [Around.under_plainId PySem.F.plain_list_iadd _]
  show wpAny _ A.in1 (Builtin.List.listExtendWith (.ref s.heap.objs.size) (.ref S) (.ref s.heap.objs.size)) _ _ _
  unfold Builtin.List.listExtendWith
  refine wpAny_bind (wpAny_typeOf (T := "set") (SetS.typeIs (s := { s with heap := s.heap.push { cls := .type "list", data := .seq ([] : List Value).toArray } }) hS1) ?_)
  have h1 : Builtin.List.listSameRef (.ref s.heap.objs.size) (.ref S) = false := by
    show (s.heap.objs.size == S) = false
    exact beq_eq_false_iff_ne.mpr (Nat.ne_of_gt hlt)
  refine wpAny_ite_split (fun hab => absurd hab (by rw [h1]; decide)) (fun _ => ?_)
  refine wpAny_bind (iterSet (s := { s with heap := s.heap.push { cls := .type "list", data := .seq ([] : List Value).toArray } }) hS1 (by unfold scanBound; omega) fun I fp h' d vs St W st hvs hk hI hfp => ?_)
  obtain ⟨ss, hst, hperm⟩ := hvs
  have hvl : vs.length < 64 := by rw [StrsAre.len hst, hperm.length_eq]; exact hb
  have hsz : (s.heap.push { cls := .type "list", data := .seq ([] : List Value).toArray }).objs.size = s.heap.objs.size + 1 := Heap.size_push ..
  have hI' : s.heap.objs.size + 1 ≤ I := by have := hI; simp only at this; rw [hsz] at this; exact this
  have hLf : s.heap.objs.size ∉ fp := fun hm => by
    rcases hfp _ hm with e | e
    · exact Nat.ne_of_gt hlt e
    · simp only at e; rw [hsz] at e; exact Nat.not_succ_le_self _ e
  have hL1 := hk _ _ hL
  refine wpAny_bind (wpAny_holding (hintSet ?_ ?_))
  · obtain ⟨o, es, ep, t, ho, hex, _⟩ := hS1; exact ⟨o, hk _ _ ho, hex.1⟩
  refine wpAny_ite_split (fun _ => ?_) (fun hab => absurd (by decide +kernel) hab)
  refine wpAny_bind (wpAny_rule ?_)
  refine wpAny_bind ?_
  show wpAny _ _ (updateSeq s.heap.objs.size (·.push .none) >>= fun _ => updateSeq s.heap.objs.size (·.pop)) _ _ _
  refine wpAny_bind (wpAny_updateSeq hL1 rfl ?_)
  have hL2 := Heap.get?_update_self (Obj.mapSeq (·.push Value.none)) hL1 rfl
  refine wpAny_updateSeq (hz := by seq_fits) hL2 rfl ?_
  have hL3 := Heap.get?_update_self (Obj.mapSeq (·.pop)) hL2 rfl
  have oth : ∀ b o, b ≠ s.heap.objs.size → h'.get? b = some o → ((h'.update s.heap.objs.size (Obj.mapSeq (·.push Value.none))).update s.heap.objs.size (Obj.mapSeq (·.pop))).get? b = some o := fun b o hb e =>
    (Heap.get?_update_other _ _ (Ne.symm hb)).trans ((Heap.get?_update_other _ _ (Ne.symm hb)).trans e)
  have W1 := W A.in1.in1 (by first | exact hh | simpa using hh)
  refine wpAny_pure ⟨plainId_quiet PySem.F.plain_extend_loop _, codeAny_extend_loopS (W A.in1 (by first | exact hh | simpa using hh)).toS (by exact Nat.le_trans (Nat.le_of_lt hvl) (show 64 ≤ sizeLine by decide)) s.heap.objs.size hLf (.ref s.heap.objs.size) vs.length 0 _ #[] _ rfl (Nat.zero_le _) ?_ hL3 (ItemsOf.nil _) fun s' acc' c' hm hS' hacc => ?_⟩
  · exact W1.frame 0 _ _ st fun b hb o e => oth b o (fun h => hLf (h ▸ hb)) e
  · show wpAny _ A (load s.heap.objs.size >>= _) _ _ _
    refine wpAny_bind (wpAny_load hS' (wpAny_pure ?_))
    rw [items_eq hacc, Moved.eq_with hm]
    refine hQ s'.heap s'.toks d vs ss (fun b o e => hm.heap b o (fun hmem => ?_) (oth b o (Nat.ne_of_lt (Heap.lt_size e)) (hk b o (Heap.get?_push_of_some _ e)))) hst hperm
    rcases List.mem_cons.mp hmem with e' | hmem
    · exact Nat.ne_of_lt (Heap.lt_size e) e'
    · have := Heap.lt_size e; rw [List.mem_singleton.mp hmem] at this; exact absurd (Nat.lt_of_lt_of_le this (Nat.le_of_succ_le hI')) (Nat.lt_irrefl _)
end
section
variable {B : Bs} {F : Fi} {X : Str → Prop} {n : Nat} {ρ : List (Option Sl)}
theorem Kp.ofD {s : Shared} {h' : Heap} {t : Nat} {d} (k : ∀ b o, s.heap.get? b = some o → h'.get? b = some o) : Kp B s { s with heap := h', toks := t, drawn := d } :=
  ⟨fun b o e _ _ => k b o e, fun b o e _ => ⟨o.slots, k b o e⟩, fun b o _ _ e _ _ => k b o e, fun b o e => ⟨o, k b o e, fun x => x, fun x => ⟨rfl, x⟩⟩, rfl, rfl⟩
theorem sortedPost2 {s0 s1 : Shared} {vs : List Value} {out : Array Value} {ss ss' : List Str} (k : Kp B s0 s1) (e1 : StrsAre out.toList ss') (e2 : ss'.Perm ss) (e3 : sortedS ss' = true) {env : Env} {oa : Nat → Option Addr} :
    Kp B s0 { s1 with heap := sortedHeap (s1.heap.push (seqObj "list" vs.toArray 0)) s1.heap.objs.size vs out } ∧
    VR B env oa s0 { s1 with heap := sortedHeap (s1.heap.push (seqObj "list" vs.toArray 0)) s1.heap.objs.size vs out } (.ref s1.heap.objs.size) (.ct .fr (.lst ((srt ss).map .str))) := by
  have hoL : (s1.heap.push (seqObj "list" vs.toArray 0)).get? s1.heap.objs.size = some (seqObj "list" vs.toArray 0) := Heap.get?_push_size _ rfl
  obtain ⟨e, he⟩ := sortedHeap_at (vs := vs) (out := out) hoL
  have hold : ∀ b o, s1.heap.get? b = some o → (sortedHeap (s1.heap.push (seqObj "list" vs.toArray 0)) s1.heap.objs.size vs out).get? b = some o := fun b o q => by
    have hlt := Heap.lt_size q
    rw [sortedHeap_old (Nat.ne_of_lt hlt) (by rw [Heap.size_push]; exact Nat.lt_succ_of_lt hlt)]
    exact Heap.get?_push_of_some _ q
  have k2 : Kp B s1 { s1 with heap := sortedHeap (s1.heap.push (seqObj "list" vs.toArray 0)) s1.heap.objs.size vs out } := Kp.of (s := s1) (t := s1.toks) hold
  refine ⟨k.trans k2, _, rfl, ⟨_, out, e, he, ⟨rfl, rfl⟩, rfl, ?_⟩, k.fresh (fresh_size s1)⟩
  rw [← srt_unique e2 (sortedS_pw e3)]
  exact Ims.ofStrs e1
theorem EW.sortedSet {p1 p2 p3 p4 : Pos} {e : Expr} {Q : AV → Prop} (hk1 : F.scope.names.lookup ("sorted" : Str) = some .globalImplicit) (hm1 : B.mg "sorted" = none) (hk2 : F.scope.names.lookup ("set" : Str) = some .globalImplicit) (hm2 : B.mg "set" = none) (hq : B.quiet = true)
    (h : LW B F X n ρ [e] fun rs => ∃ m ks, rs = [.ct m (.lst (ks.map .str))] ∧ ks.length + 1 < scanBound ∧ (metS ks).length < 64 ∧ Q (.ct .fr (.lst ((srt (metS ks)).map .str))))
    (he : ∀ env, starEach [e] env = [(false, eval e env)] := by intro _; rfl) :
    EW B F X n ρ (.Call (.Name "sorted" p1) [.Call (.Name "set" p2) [e] [] p3] [] p4) Q := by
  refine .mk ?_
  intro env oa A s R a
  refine wpAny_Call_ofName (loadBuiltin R hk1 hm1 bb_sorted ?_ (by decide) (by decide))
  refine PyProof.Rows.callWith_builtin1 ?_ rfl rfl
  refine wpAny_items_cons ?_ rfl
  refine wpAny_Call_ofName (loadBuiltin R hk2 hm2 bb_set ?_ (by decide) (by decide))
  refine PyProof.Rows.callWith_type1 ?_ (he env) rfl
  refine wpAny_mono (h.go env oa A s _ R a) (fun vs s1 hz => ?_) fun _ _ x => x
  obtain ⟨rs, ⟨m, ks, rfl, hb1, hb2, hQ⟩, k1, hl, hv⟩ := hz
  obtain ⟨v, rfl⟩ := len1 hl
  have x := hv 0 v _ rfl rfl
  obtain ⟨ad, vs, rfl, hlist, hims⟩ := x.lst
  have a1 := a.kp k1
  refine callSet (a1.handled hq) hlist (Ims.strs hims) hb1 fun h' tk hS hold => ?_
  have k2 : Kp B s1 { s1 with heap := h', toks := tk } := Kp.of hold
  refine wpAny_items_nil ?_
  have a2 := a1.kp k2
  refine sortedOf (s := { s1 with heap := h', toks := tk }) fun A' E' hh' => collectS (s := { s1 with heap := h', toks := tk }) (hh'.trans (a2.handled hq)) hS hb2 fun h2 tk2 d vs2 ss hk hst hperm => ?_
  refine ⟨ss, hst, by rw [StrsAre.len hst, hperm.length_eq]; exact hb2, fun out ss' e1 e2 e3 => ?_⟩
  have k3 : Kp B { s1 with heap := h', toks := tk } { s1 with heap := h2, toks := tk2, drawn := d } := Kp.ofD (s := { s1 with heap := h', toks := tk }) hk
  obtain ⟨z1, z2⟩ := sortedPost2 (vs := vs2) (env := env) (oa := oa) ((k1.trans k2).trans k3) e1 (e2.trans hperm) e3
  exact ⟨_, hQ, z1, z2⟩
end
end Mine
end

section
open PySem PySem.W PyProof.Rows PyProof
set_option linter.unusedVariables false
namespace Mine
noncomputable def iD (l : List (Str × Int)) : List (Str × D) := l.map fun kv => (kv.1, .int kv.2)
noncomputable def iAt (l : List (Str × Int)) (k : Str) : Option Int := (l.find? fun kv => kv.1 = k).map (·.2)
noncomputable def iSto (l : List (Str × Int)) (k : Str) (d : Int) : List (Str × Int) :=
  if l.any (fun kv => kv.1 = k) then l.map (fun kv => if kv.1 = k then (kv.1, d) else kv) else l ++ [(k, d)]
theorem dAt_iD (l : List (Str × Int)) (k : Str) : dAt (iD l) k = (iAt l k).map .int := by
  unfold dAt iD iAt
  rw [List.find?_map]
  cases h : l.find? ((fun kv : Str × D => decide (kv.1 = k)) ∘ fun kv : Str × Int => (kv.1, D.int kv.2)) with
  | none =>
    have h' : l.find? (fun kv => decide (kv.1 = k)) = none := h
    rw [h']; rfl
  | some p =>
    have h' : l.find? (fun kv => decide (kv.1 = k)) = some p := h
    rw [h']; rfl
theorem dSto_iD (l : List (Str × Int)) (k : Str) (d : Int) : dSto (iD l) k (.int d) = iD (iSto l k d) := by
  unfold dSto iSto iD
  rw [List.any_map]
  have e : ((fun kv : Str × D => decide (kv.1 = k)) ∘ fun kv : Str × Int => (kv.1, D.int kv.2)) = fun kv : Str × Int => decide (kv.1 = k) := rfl
  rw [e]
  split
  · rw [List.map_map, List.map_map]
    apply List.map_congr_left
    intro p _
    simp only [Function.comp]
    split <;> rfl
  · simp
theorem iD_keys (l : List (Str × Int)) : (iD l).map (fun kv => D.str kv.1) = (l.map (·.1)).map .str := by
  simp [iD]
theorem iSto_keys (l : List (Str × Int)) (k : Str) (d : Int) : (iSto l k d).map (·.1) = if k ∈ l.map (·.1) then l.map (·.1) else l.map (·.1) ++ [k] := by
  unfold iSto
  have hiff : l.any (fun kv => decide (kv.1 = k)) = true ↔ k ∈ l.map (·.1) := by
    simp only [List.any_eq_true, decide_eq_true_eq, List.mem_map]
  by_cases h : k ∈ l.map (·.1)
  · rw [if_pos (hiff.mpr h), if_pos h, List.map_map]
    apply List.map_congr_left
    intro p _
    simp only [Function.comp]
    split <;> rfl
  · rw [if_neg (fun q => h (hiff.mp q)), if_neg h, List.map_append]; rfl
theorem iAt_cons (p : Str × Int) (l : List (Str × Int)) (k : Str) : iAt (p :: l) k = if p.1 = k then some p.2 else iAt l k := by
  unfold iAt; rw [List.find?_cons]
  by_cases h : p.1 = k <;> simp [h]
theorem iAt_none (l : List (Str × Int)) (k : Str) (h : k ∉ l.map (·.1)) : iAt l k = none := by
  induction l with
  | nil => rfl
  | cons p l ih =>
    simp only [List.map_cons, List.mem_cons, not_or] at h
    rw [iAt_cons, if_neg (fun e => h.1 e.symm), ih h.2]
theorem iAt_mem {l : List (Str × Int)} {k : Str} {v : Int} (nd : (l.map (·.1)).Nodup) (h : (k, v) ∈ l) : iAt l k = some v := by
  induction l with
  | nil => cases h
  | cons p l ih =>
    rw [List.map_cons, List.nodup_cons] at nd
    rw [iAt_cons]
    rcases List.mem_cons.mp h with e | e
    · subst e; simp
    · rw [if_neg (fun q => nd.1 (by rw [q]; exact List.mem_map.mpr ⟨_, e, rfl⟩)), ih nd.2 e]
theorem iAt_append (l m : List (Str × Int)) (k : Str) : iAt (l ++ m) k = (iAt l k).or (iAt m k) := by
  induction l with
  | nil => simp [iAt]
  | cons p l ih => rw [List.cons_append, iAt_cons, iAt_cons, ih]; split <;> rfl
theorem iAt_map (l : List (Str × Int)) (k j : Str) (d : Int) : iAt (l.map fun kv => if kv.1 = k then (kv.1, d) else kv) j = if j = k then (iAt l k).map (fun _ => d) else iAt l j := by
  induction l with
  | nil => simp [iAt]
  | cons p l ih =>
    rw [List.map_cons, iAt_cons, ih]
    by_cases h1 : p.1 = k
    · by_cases h2 : j = k
      · subst h2; simp [h1, iAt_cons]
      · have : ¬ p.1 = j := fun q => h2 (q.symm.trans h1)
        have h3 : ¬ k = j := fun q => h2 q.symm
        simp [h1, h2, h3, iAt_cons]
    · by_cases h2 : j = k
      · subst h2; simp [h1, iAt_cons]
      · by_cases h3 : p.1 = j
        · simp [h1, h2, h3, iAt_cons]
        · simp [h1, h2, h3, iAt_cons]
theorem iAt_some (l : List (Str × Int)) (k : Str) (h : k ∈ l.map (·.1)) : ∃ v, iAt l k = some v := by
  induction l with
  | nil => cases h
  | cons p l ih =>
    rw [iAt_cons]
    by_cases h1 : p.1 = k
    · exact ⟨p.2, by simp [h1]⟩
    · rw [if_neg h1]
      simp only [List.map_cons, List.mem_cons] at h
      exact ih (h.resolve_left fun q => h1 q.symm)
theorem iAt_iSto (l : List (Str × Int)) (k j : Str) (d : Int) : iAt (iSto l k d) j = if j = k then some d else iAt l j := by
  unfold iSto
  have hiff : l.any (fun kv => decide (kv.1 = k)) = true ↔ k ∈ l.map (·.1) := by
    simp only [List.any_eq_true, decide_eq_true_eq, List.mem_map]
  by_cases h : k ∈ l.map (·.1)
  · rw [if_pos (hiff.mpr h), iAt_map]
    obtain ⟨v, hv⟩ := iAt_some l k h
    rw [hv]; rfl
  · rw [if_neg (fun q => h (hiff.mp q)), iAt_append]
    by_cases h2 : j = k
    · subst h2; rw [iAt_none l j h]; simp [iAt]
    · have h3 : ¬ k = j := fun q => h2 q.symm
      simp [h2, iAt_cons, h3]
      simp [iAt]

noncomputable def pD (p : Str × Int) : D := .tup [.str p.1, .int p.2]
noncomputable def asP : D → Option (Str × Int)
  | .tup [a, b] => match a, b with
    | .str k, .int v => some (k, v)
    | _, _ => none
  | _ => none
theorem asP_pD (p : Str × Int) : asP (pD p) = some p := rfl
noncomputable def put1 (l : List (Str × Int)) (p : Str × Int) : List (Str × Int) := iSto l p.1 ((iAt l p.1).getD 0 + p.2)
noncomputable def tally (ps : List (Str × Int)) : List (Str × Int) := ps.foldl put1 []
noncomputable def sumOf (k : Str) (ps : List (Str × Int)) : Int := ((ps.filter fun p => p.1 = k).map (·.2)).sum
theorem sumOf_snoc (k : Str) (ps : List (Str × Int)) (p : Str × Int) : sumOf k (ps ++ [p]) = if p.1 = k then sumOf k ps + p.2 else sumOf k ps := by
  unfold sumOf
  rw [List.filter_append, List.map_append, List.sum_append]
  by_cases h : p.1 = k <;> simp [h]
theorem sumOf_none (k : Str) (ps : List (Str × Int)) (h : k ∉ ps.map (·.1)) : sumOf k ps = 0 := by
  unfold sumOf
  rw [List.filter_eq_nil_iff.mpr]
  · rfl
  · intro p hp q
    exact h (List.mem_map.mpr ⟨p, hp, by simpa using q⟩)
theorem snoc_ind {α : Type} {P : List α → Prop} (h0 : P []) (h1 : ∀ l a, P l → P (l ++ [a])) : ∀ l, P l := by
  intro l
  have : ∀ n (l : List α), l.length = n → P l := by
    intro n
    induction n with
    | zero => intro l hl; rw [List.length_eq_zero_iff.mp hl]; exact h0
    | succ n ih =>
      intro l hl
      have hne : l ≠ [] := fun q => by rw [q] at hl; cases hl
      rw [← List.dropLast_concat_getLast hne]
      exact h1 _ _ (ih _ (by rw [List.length_dropLast]; omega))
  exact this _ l rfl
theorem tally_snoc (ps : List (Str × Int)) (p : Str × Int) : tally (ps ++ [p]) = put1 (tally ps) p := by
  unfold tally; rw [List.foldl_append]; rfl
theorem tally_mem (ps : List (Str × Int)) : ∀ k, k ∈ (tally ps).map (·.1) ↔ k ∈ ps.map (·.1) := by
  induction ps using snoc_ind with
  | h0 => intro k; rfl
  | h1 l a ih =>
    intro k
    rw [tally_snoc, put1, iSto_keys, List.map_append, List.mem_append, ← ih k]
    split
    · rename_i h
      constructor
      · exact .inl
      · intro q; rcases q with q | q
        · exact q
        · simp at q; rw [q]; exact h
    · simp
theorem tally_nodup (ps : List (Str × Int)) : ((tally ps).map (·.1)).Nodup := by
  induction ps using snoc_ind with
  | h0 => exact .nil
  | h1 l a ih =>
    rw [tally_snoc, put1, iSto_keys]
    split
    · exact ih
    · rename_i h
      refine List.nodup_append.mpr ⟨ih, by simp, ?_⟩
      intro x hx y hy q
      simp at hy
      rw [q, hy] at hx; exact h hx
theorem tally_at (ps : List (Str × Int)) : ∀ k, iAt (tally ps) k = if k ∈ ps.map (·.1) then some (sumOf k ps) else none := by
  induction ps using snoc_ind with
  | h0 => intro k; rfl
  | h1 l a ih =>
    intro k
    rw [tally_snoc, put1, iAt_iSto, sumOf_snoc, ih a.1, ih k]
    by_cases h : k = a.1
    · subst h
      have : (a.1 ∈ (l ++ [a]).map (·.1)) := by simp
      rw [if_pos rfl, if_pos this, if_pos rfl]
      by_cases h2 : a.1 ∈ l.map (·.1)
      · simp [h2]
      · rw [sumOf_none _ _ h2]; simp [h2]
    · have h3 : ¬ a.1 = k := fun q => h q.symm
      rw [if_neg h, if_neg h3]
      by_cases h2 : k ∈ l.map (·.1)
      · rw [if_pos h2, if_pos (by rw [List.map_append]; exact List.mem_append_left _ h2)]
      · rw [if_neg h2, if_neg (fun q => ?_)]
        rw [List.map_append, List.mem_append] at q
        rcases q with q | q
        · exact h2 q
        · simp at q; exact h q
noncomputable def madeL (ps : List (Str × Int)) : List (Str × Int) := ((srt ((tally ps).map (·.1))).filter fun k => decide (sumOf k ps ≠ 0)).map fun k => (k, sumOf k ps)
noncomputable def dueL (names : List Str) (ps : List (Str × Int)) : List (Str × Int) := ((srt names).filter fun k => decide (sumOf k ps ≠ 0)).map fun k => (k, sumOf k ps)
theorem made_eq_due {names : List Str} {ps : List (Str × Int)} (nd : names.Nodup) (hm : ∀ p ∈ ps, p.1 ∈ names) : madeL ps = dueL names ps := by
  unfold madeL dueL
  congr 1
  have s1 := (srt_sorted ((tally ps).map (·.1))).filter fun k => decide (sumOf k ps ≠ 0)
  have s2 := (srt_sorted names).filter fun k => decide (sumOf k ps ≠ 0)
  refine List.Perm.eq_of_pairwise (fun a b _ _ h1 h2 => sle_anti h1 h2) s1 s2 ?_
  have n1 : ((srt ((tally ps).map (·.1))).filter fun k => decide (sumOf k ps ≠ 0)).Nodup := List.Pairwise.filter _ ((srt_perm _).nodup_iff.mpr (tally_nodup ps))
  have n2 : ((srt names).filter fun k => decide (sumOf k ps ≠ 0)).Nodup := List.Pairwise.filter _ ((srt_perm _).nodup_iff.mpr nd)
  refine (List.perm_ext_iff_of_nodup n1 n2).mpr fun k => ?_
  rw [List.mem_filter, List.mem_filter, (srt_perm _).mem_iff, (srt_perm _).mem_iff, tally_mem]
  constructor
  · rintro ⟨h1, h2⟩
    obtain ⟨p, hp, rfl⟩ := List.mem_map.mp h1
    exact ⟨hm p hp, h2⟩
  · rintro ⟨h1, h2⟩
    refine ⟨?_, h2⟩
    by_cases q : k ∈ ps.map (·.1)
    · exact q
    · rw [sumOf_none k ps q] at h2; simp at h2
theorem share_due {names : List Str} {ps : List (Str × Int)} (nd : names.Nodup) {k : Str} (hk : k ∈ names) : (iAt (dueL names ps) k).getD 0 = sumOf k ps := by
  have e : (dueL names ps).map (·.1) = (srt names).filter fun k => decide (sumOf k ps ≠ 0) := by
    unfold dueL; rw [List.map_map]; exact List.map_id _
  by_cases h : sumOf k ps = 0
  · rw [iAt_none, h]; · rfl
    rw [e, List.mem_filter]; simp [h]
  · have : (k, sumOf k ps) ∈ dueL names ps := List.mem_map.mpr ⟨k, List.mem_filter.mpr ⟨(srt_perm _).mem_iff.mpr hk, by simp [h]⟩, rfl⟩
    rw [iAt_mem _ this]; · rfl
    rw [e]; exact List.Pairwise.filter _ ((srt_perm _).nodup_iff.mpr nd)
end Mine
end

section
open PySem PySem.W PyProof.Rows PyProof
set_option linter.unusedVariables false
namespace Mine
theorem foldl_rep (x : Array Nat) : ∀ (n : Nat) (acc : Array Nat), ((List.replicate n x).foldl (· ++ ·) acc).size = acc.size + n * x.size
  | 0, acc => by simp
  | n + 1, acc => by rw [List.replicate_succ, List.foldl_cons, foldl_rep x n, Array.size_append, Nat.add_one_mul]; omega
theorem mul_length {x : Str} {n : Int} (h : 1 ≤ n) : (Txt.mul x n).length = n.toNat * x.length := by
  unfold Txt.mul
  rw [if_neg (by omega)]
  split
  · rename_i q
    simp only [Bool.or_eq_true, beq_iff_eq] at q
    rcases q with rfl | q
    · simp
    · simp [q]
  · show Array.size _ = _
    rw [foldl_rep]; simp [Str.length]
theorem slice1 {x : Str} (h : 1 ≤ x.length) : (Txt.slice x none (some 1)).length = 1 := by
  unfold Txt.slice
  have e : PySem.Builtin.Str.strSliceIndices none (some 1) 1 x.length = [0] := by
    unfold PySem.Builtin.Str.strSliceIndices sliceRange
    have : max (0 : Int) (min 1 (x.length : Int)) = 1 := by omega
    simp [this]
  rw [e]
  split
  · rename_i q; simp at q; (clear h; omega)
  · show ([0].filterMap (x.cps[·]?)).toArray.size = 1
    have : x.cps[0]? = some x.cps[0] := Array.getElem?_eq_getElem (by unfold Str.length at h; omega)
    simp [this]
theorem nodup4 {α : Type} {f : Int → α} (h : ∀ i j : Int, 0 ≤ i → i < j → j < 4 → f i ≠ f j) : [f 0, f 1, f 2, f 3].Nodup := by
  have h01 := h 0 1 (by decide) (by decide) (by decide)
  have h02 := h 0 2 (by decide) (by decide) (by decide)
  have h03 := h 0 3 (by decide) (by decide) (by decide)
  have h12 := h 1 2 (by decide) (by decide) (by decide)
  have h13 := h 1 3 (by decide) (by decide) (by decide)
  have h23 := h 2 3 (by decide) (by decide) (by decide)
  simp [h01, h02, h03, h12, h13, h23]
noncomputable def nmA (w : Str) (q k : Int) : Str := Txt.mul w (1 + (k + q) % 8)
theorem nmA_nodup {w : Str} {q : Int} (hw : w.length = 1) : [nmA w q 0, nmA w q 1, nmA w q 2, nmA w q 3].Nodup := by
  refine nodup4 (f := nmA w q) fun i j h0 h1 h2 e => ?_
  have := congrArg Str.length e
  unfold nmA at this
  rw [mul_length (by (clear this h2 h1 h0 hw; omega)), mul_length (by (clear this h2 h1 h0 hw; omega)), hw] at this
  (clear hw; omega)
noncomputable def nmC (a b : Str) (q k : Int) : Str := a ++ (⟨#[97 + ((q + 7 * k) % 26).toNat]⟩ : Str) ++ b
theorem nmC_nodup {a b : Str} {q : Int} : [nmC a b q 0, nmC a b q 1, nmC a b q 2, nmC a b q 3].Nodup := by
  refine nodup4 (f := nmC a b q) fun i j h0 h1 h2 e => ?_
  have e2 := congrArg Str.cps e
  have e3 : (a.cps ++ #[97 + ((q + 7 * i) % 26).toNat] ++ b.cps).toList = (a.cps ++ #[97 + ((q + 7 * j) % 26).toNat] ++ b.cps).toList := congrArg Array.toList e2
  simp at e3
  omega
noncomputable def usualL : List Str := ["new", "k", "t", "x", "y", "z", "step", "size", "bound", "some", "and", "above", "nought", "goes", "not", "or", "all", "far", "low", "high", "name", "newone", "number", "it", "lined"]
theorem usual_nodup : usualL.Nodup := by decide +kernel
noncomputable def offs : Int → Int
  | 0 => 0
  | 1 => 7
  | 2 => 12
  | _ => 18
noncomputable def nmB (q k : Int) : Str := (usualL[((q + offs k) % 25).toNat]?).getD default
theorem mod25 {q a b : Int} (h : (q + a) % 25 = (q + b) % 25) : (a - b) % 25 = 0 := by omega
theorem nmB_nodup {q : Int} : [nmB q 0, nmB q 1, nmB q 2, nmB q 3].Nodup := by
  have key : ∀ i j : Int, nmB q i = nmB q j → (offs i - offs j) % 25 = 0 := fun i j e => by
    have l : usualL.length = 25 := rfl
    have b : ∀ k, 0 ≤ (q + offs k) % 25 ∧ (q + offs k) % 25 < 25 := fun k => ⟨Int.emod_nonneg _ (by decide), Int.emod_lt_of_pos _ (by decide)⟩
    have b' : ∀ k, ((q + offs k) % 25).toNat < usualL.length := fun k => by rw [l]; have := b k; (clear l; omega)
    unfold nmB at e
    rw [List.getElem?_eq_getElem (b' i), List.getElem?_eq_getElem (b' j)] at e
    have := (List.getElem_inj usual_nodup).mp e
    have h1 := b i
    have h2 := b j
    exact mod25 (q := q) (by (clear l; omega))
  have no : ∀ i j : Int, (offs i - offs j) % 25 ≠ 0 → nmB q i ≠ nmB q j := fun i j h e => h (key i j e)
  simp [no 0 1 (by decide), no 0 2 (by decide), no 0 3 (by decide), no 1 2 (by decide), no 1 3 (by decide), no 2 3 (by decide)]
theorem mem4l {α : Type} {P : α → Prop} {a b c d : α} (ha : P a) (hb : P b) (hc : P c) (hd : P d) : ∀ s ∈ [a, b, c, d], P s := by
  intro s hs
  rcases List.mem_cons.mp hs with rfl | hs
  · exact ha
  rcases List.mem_cons.mp hs with rfl | hs
  · exact hb
  rcases List.mem_cons.mp hs with rfl | hs
  · exact hc
  rcases List.mem_cons.mp hs with rfl | hs
  · exact hd
  cases hs
theorem nmA_ne {w : Str} {q : Int} (hw : w.length = 1) : ∀ s ∈ [nmA w q 0, nmA w q 1, nmA w q 2, nmA w q 3], 1 ≤ s.length := by
  have h : ∀ k, 1 ≤ (nmA w q k).length := fun k => by unfold nmA; rw [mul_length (by (clear hw; omega)), hw]; (clear hw; omega)
  exact mem4l (P := fun s : Str => 1 ≤ s.length) (h _) (h _) (h _) (h _)
theorem nmC_ne {a b : Str} {q : Int} : ∀ s ∈ [nmC a b q 0, nmC a b q 1, nmC a b q 2, nmC a b q 3], 1 ≤ s.length := by
  have h : ∀ k, 1 ≤ (nmC a b q k).length := fun k => by
    have : (nmC a b q k).length = a.cps.size + 1 + b.cps.size := by
      show (a.cps ++ #[_] ++ b.cps).size = _
      simp
    omega
  exact mem4l (P := fun s : Str => 1 ≤ s.length) (h _) (h _) (h _) (h _)
theorem usual_ne : ∀ s ∈ usualL, 1 ≤ s.length := by decide +kernel
theorem nmB_ne {q : Int} : ∀ s ∈ [nmB q 0, nmB q 1, nmB q 2, nmB q 3], 1 ≤ s.length := by
  have h : ∀ k, 1 ≤ (nmB q k).length := fun k => by
    have hj : ((q + offs k) % 25).toNat < usualL.length := by rw [show usualL.length = 25 from rfl]; omega
    unfold nmB
    rw [List.getElem?_eq_getElem hj]
    exact usual_ne _ (List.getElem_mem hj)
  exact mem4l (P := fun s : Str => 1 ≤ s.length) (h _) (h _) (h _) (h _)
theorem mulOk1 {x : Str} {m : Int} (hx : x.length = 1) (h1 : 1 ≤ m) (h8 : m ≤ 8) : MulOk x m := by
  refine ⟨?_, fun _ _ => ?_, fun _ _ => ?_⟩
  · simp; (clear hx; omega)
  · rw [hx]
    exact Int.not_lt.mpr (Int.le_ediv_of_mul_le (by (clear hx; omega)) (by (clear hx; omega)))
  · rw [hx]
    have : 1 * m.toNat ≤ sizeLine := Nat.le_trans (show _ ≤ 8 by (clear hx; omega)) (by decide)
    unfold PySem.Builtin.Str.tooLong
    simpa using this
theorem letters_at : ∀ j : Nat, j < 26 → ("abcdefghijklmnopqrstuvwxyz" : Str).cps[j]? = some (97 + j) := by decide +kernel
end Mine
end

section
open PySem PySem.W PyProof.Rows PyProof
set_option linter.unusedVariables false
namespace Mine
noncomputable def sumD (k : Int) (ps : List (Str × Int)) : D := .tup [.int k, .tup (ps.map pD)]
noncomputable def vAt (vs : List (Str × Int)) (k : Str) : Int := (iAt vs k).getD 0
noncomputable def lin (vs ps : List (Str × Int)) : Int := (ps.map fun p => p.2 * vAt vs p.1).sum
theorem lin_append (vs ps qs : List (Str × Int)) : lin vs (ps ++ qs) = lin vs ps + lin vs qs := by simp [lin]
theorem lin_cons (vs : List (Str × Int)) (p : Str × Int) (ps : List (Str × Int)) : lin vs (p :: ps) = p.2 * vAt vs p.1 + lin vs ps := by simp [lin]
noncomputable def scl (n : Int) (ps : List (Str × Int)) : List (Str × Int) := ps.map fun p => (p.1, n * p.2)
theorem lin_scl (vs : List (Str × Int)) (n : Int) (ps : List (Str × Int)) : lin vs (scl n ps) = n * lin vs ps := by
  induction ps with
  | nil => simp [scl, lin]
  | cons p ps ih =>
    have : scl n (p :: ps) = (p.1, n * p.2) :: scl n ps := rfl
    rw [this, lin_cons, lin_cons, ih, Int.mul_add, Int.mul_assoc]
theorem sumOf_cons (k : Str) (p : Str × Int) (ps : List (Str × Int)) : sumOf k (p :: ps) = (if p.1 = k then p.2 else 0) + sumOf k ps := by
  unfold sumOf
  by_cases h : p.1 = k
  · rw [List.filter_cons_of_pos (by simp [h])]; simp [h]
  · rw [List.filter_cons_of_neg (by simp [h])]; simp [h]
theorem sum_pick (f : Str → Int) (x : Str) (c : Int) : ∀ {ks : List Str}, ks.Nodup → x ∈ ks → (ks.map fun k => (if x = k then c else 0) * f k).sum = c * f x
  | [], _, h => by cases h
  | k :: ks, nd, h => by
    rw [List.nodup_cons] at nd
    rw [List.map_cons, List.sum_cons]
    by_cases q : x = k
    · subst q
      have z : (ks.map fun k => (if x = k then c else 0) * f k).sum = 0 := by
        have : ks.map (fun k => (if x = k then c else 0) * f k) = ks.map fun _ => 0 := List.map_congr_left fun k hk => by
          have : ¬ x = k := fun q => nd.1 (q ▸ hk)
          simp [this]
        rw [this]
        clear this nd h
        induction ks with
        | nil => rfl
        | cons _ _ ih => simpa using ih
      rw [z]; simp
    · rw [sum_pick f x c nd.2 ((List.mem_cons.mp h).resolve_left q)]; simp [q]
theorem sum_map_add (f g : Str → Int) : ∀ ks : List Str, (ks.map fun k => f k + g k).sum = (ks.map f).sum + (ks.map g).sum
  | [] => rfl
  | k :: ks => by simp only [List.map_cons, List.sum_cons, sum_map_add f g ks]; omega
theorem sum_zero (f : Str → Int) : ∀ ks : List Str, (∀ k ∈ ks, f k = 0) → (ks.map f).sum = 0
  | [], _ => rfl
  | k :: ks, h => by rw [List.map_cons, List.sum_cons, h k List.mem_cons_self, sum_zero f ks fun k hk => h k (List.mem_cons_of_mem _ hk)]; rfl
theorem lin_keys (vs : List (Str × Int)) {ks : List Str} (nd : ks.Nodup) : ∀ {ps : List (Str × Int)}, (∀ p ∈ ps, p.1 ∈ ks) → (ks.map fun k => sumOf k ps * vAt vs k).sum = lin vs ps
  | [], _ => sum_zero _ ks fun k _ => by simp [sumOf]
  | p :: ps, h => by
    have e : ks.map (fun k => sumOf k (p :: ps) * vAt vs k) = ks.map fun k => (if p.1 = k then p.2 else 0) * vAt vs k + sumOf k ps * vAt vs k :=
      List.map_congr_left fun k _ => by rw [sumOf_cons, Int.add_mul]
    rw [e, sum_map_add, sum_pick (vAt vs) p.1 p.2 nd (h p List.mem_cons_self), lin_keys vs nd fun q hq => h q (List.mem_cons_of_mem _ hq), lin_cons]
theorem sum_filter (f : Str → Int) (P : Str → Bool) : ∀ ks : List Str, (∀ k ∈ ks, P k = false → f k = 0) → ((ks.filter P).map f).sum = (ks.map f).sum
  | [], _ => rfl
  | k :: ks, h => by
    have ih := sum_filter f P ks fun j hj => h j (List.mem_cons_of_mem _ hj)
    by_cases q : P k = true
    · rw [List.filter_cons_of_pos q, List.map_cons, List.map_cons, List.sum_cons, List.sum_cons, ih]
    · rw [List.filter_cons_of_neg q, List.map_cons, List.sum_cons, ih, h k List.mem_cons_self (by simpa using q)]; (clear q ih; omega)
theorem lin_made (vs ps : List (Str × Int)) : lin vs (madeL ps) = lin vs ps := by
  have nd : (srt ((tally ps).map (·.1))).Nodup := (srt_perm _).nodup_iff.mpr (tally_nodup ps)
  have hm : ∀ p ∈ ps, p.1 ∈ srt ((tally ps).map (·.1)) := fun p hp => (srt_perm _).mem_iff.mpr ((tally_mem ps _).mpr (List.mem_map.mpr ⟨p, hp, rfl⟩))
  rw [← lin_keys vs nd hm]
  unfold madeL lin
  rw [List.map_map]
  exact sum_filter (fun k => sumOf k ps * vAt vs k) (fun k => decide (sumOf k ps ≠ 0)) _ fun k _ q => by
    have : sumOf k ps = 0 := by simpa using q
    rw [this]; simp
structure Good (ss : List Str) (ps : List (Str × Int)) : Prop where
  inc : (ps.map (·.1)).Pairwise fun a b => sle b a = false
  nz : ∀ p ∈ ps, p.2 ≠ 0
  mem : ∀ p ∈ ps, p.1 ∈ ss
theorem strict {ks : List Str} (h : ks.Pairwise fun a b => sle a b = true) (nd : ks.Nodup) : ks.Pairwise fun a b => sle b a = false := by
  refine List.Pairwise.imp₂ (fun a b h1 h2 => ?_) h nd
  cases q : sle b a with
  | false => rfl
  | true => exact absurd (sle_anti h1 q) h2
theorem sle_refl (a : Str) : sle a a = true := by have := sle_total a a; simpa using this
theorem strict_nodup {ks : List Str} (h : ks.Pairwise fun a b => sle b a = false) : ks.Nodup := h.imp fun {a b} q e => by subst e; rw [sle_refl] at q; cases q
theorem Good.made {ss : List Str} {ps : List (Str × Int)} (h : ∀ p ∈ ps, p.1 ∈ ss) : Good ss (madeL ps) := by
  have e : (madeL ps).map (·.1) = (srt ((tally ps).map (·.1))).filter fun k => decide (sumOf k ps ≠ 0) := by
    unfold madeL; rw [List.map_map]; exact List.map_id _
  refine ⟨?_, fun p hp => ?_, fun p hp => ?_⟩
  · rw [e]
    exact (strict (srt_sorted _) ((srt_perm _).nodup_iff.mpr (tally_nodup ps))).filter _
  · obtain ⟨k, hk, rfl⟩ := List.mem_map.mp hp
    simpa using (List.mem_filter.mp hk).2
  · obtain ⟨k, hk, rfl⟩ := List.mem_map.mp hp
    have := (tally_mem ps k).mp ((srt_perm _).mem_iff.mp (List.mem_filter.mp hk).1)
    obtain ⟨q, hq, e⟩ := List.mem_map.mp this
    exact e ▸ h q hq
theorem Good.filter {ss : List Str} {ps : List (Str × Int)} (g : Good ss ps) (P : Str × Int → Bool) : Good ss (ps.filter P) :=
  ⟨g.inc.sublist ((List.filter_sublist).map _), fun p hp => g.nz p ((List.mem_filter.mp hp).1), fun p hp => g.mem p ((List.mem_filter.mp hp).1)⟩
theorem made_len (ps : List (Str × Int)) : (madeL ps).length ≤ ps.length := by
  unfold madeL
  rw [List.length_map]
  refine Nat.le_trans (List.length_filter_le _ _) ?_
  rw [(srt_perm _).length_eq, List.length_map]
  induction ps using snoc_ind with
  | h0 => exact Nat.le_refl _
  | h1 l a ih =>
    rw [tally_snoc, put1]
    have := congrArg List.length (iSto_keys (tally l) a.1 ((iAt (tally l) a.1).getD 0 + a.2))
    rw [List.length_map] at this
    rw [this, List.length_append]
    split <;> simp <;> omega
noncomputable def nxt (n : Int) : Int := (n * 48271 + 11) % 2147483647
noncomputable def sumL (wide : Int) : Int → List Str → List (Str × Int)
  | _, [] => []
  | n, nm :: r => if nxt n / 7 % (2 * wide + 1) - wide ≠ 0 then (nm, nxt n / 7 % (2 * wide + 1) - wide) :: sumL wide (nxt n) r else sumL wide (nxt n) r
noncomputable def sumN : Int → List Str → Int
  | n, [] => n
  | n, _ :: r => sumN (nxt n) r
theorem sumL_sub (wide : Int) : ∀ (l : List Str) (n : Int), ((sumL wide n l).map (·.1)).Sublist l
  | [], n => .slnil
  | nm :: r, n => by
    unfold sumL
    split
    · exact (sumL_sub wide r (nxt n)).cons_cons _
    · exact (sumL_sub wide r (nxt n)).cons _
theorem sumL_nz (wide : Int) : ∀ (l : List Str) (n : Int), ∀ p ∈ sumL wide n l, p.2 ≠ 0
  | [], n, p, hp => by cases hp
  | nm :: r, n, p, hp => by
    unfold sumL at hp
    split at hp
    · rename_i q
      rcases List.mem_cons.mp hp with rfl | hp
      · exact q
      · exact sumL_nz wide r _ p hp
    · exact sumL_nz wide r _ p hp
theorem sumL_bd {wide : Int} (hw : 0 ≤ wide) : ∀ (l : List Str) (n : Int), ∀ p ∈ sumL wide n l, -wide ≤ p.2 ∧ p.2 ≤ wide
  | [], n, p, hp => by cases hp
  | nm :: r, n, p, hp => by
    have hb : -wide ≤ nxt n / 7 % (2 * wide + 1) - wide ∧ nxt n / 7 % (2 * wide + 1) - wide ≤ wide := by
      have h1 := Int.emod_nonneg (nxt n / 7) (show 2 * wide + 1 ≠ 0 by (clear hw; omega))
      have h2 := Int.emod_lt_of_pos (nxt n / 7) (show 0 < 2 * wide + 1 by (clear h1; omega))
      (clear hw; omega)
    unfold sumL at hp
    split at hp
    · rcases List.mem_cons.mp hp with rfl | hp
      · exact hb
      · exact sumL_bd hw r _ p hp
    · exact sumL_bd hw r _ p hp
theorem Good.sum {ss names : List Str} {wide n : Int} (nd : names.Nodup) (hs : ∀ x ∈ names, x ∈ ss) : Good ss (sumL wide n (srt names)) := by
  have st := strict (srt_sorted names) ((srt_perm _).nodup_iff.mpr nd)
  refine ⟨st.sublist (sumL_sub wide _ _), sumL_nz wide _ _, fun p hp => hs _ ((srt_perm names).mem_iff.mp ((sumL_sub wide _ _).subset (List.mem_map.mpr ⟨p, hp, rfl⟩)))⟩
end Mine
end

section
open PySem PySem.W PyProof.Rows PyProof
set_option linter.unusedVariables false
namespace Mine
mutual
inductive St where
  | above (k : Int) (ps : List (Str × Int))
  | nought (k : Int) (ps : List (Str × Int))
  | goes (m k : Int) (ps : List (Str × Int))
  | neg (s : St)
  | conn (a : Bool) (l : Sts)
  | bind (e : Bool) (nm : Str) (s : St)
inductive Sts where
  | nil
  | cons (s : St) (l : Sts)
end
noncomputable def Sts.All (P : St → Prop) : Sts → Prop
  | .nil => True
  | .cons s l => P s ∧ l.All P
mutual
theorem St.ind {P : St → Prop} (h1 : ∀ k ps, P (.above k ps)) (h2 : ∀ k ps, P (.nought k ps)) (h3 : ∀ m k ps, P (.goes m k ps)) (h4 : ∀ s, P s → P (.neg s)) (h5 : ∀ a l, l.All P → P (.conn a l)) (h6 : ∀ e nm s, P s → P (.bind e nm s)) : ∀ s, P s
  | .above k ps => h1 k ps
  | .nought k ps => h2 k ps
  | .goes m k ps => h3 m k ps
  | .neg s => h4 s (St.ind h1 h2 h3 h4 h5 h6 s)
  | .conn a l => h5 a l (Sts.ind h1 h2 h3 h4 h5 h6 l)
  | .bind e nm s => h6 e nm s (St.ind h1 h2 h3 h4 h5 h6 s)
theorem Sts.ind {P : St → Prop} (h1 : ∀ k ps, P (.above k ps)) (h2 : ∀ k ps, P (.nought k ps)) (h3 : ∀ m k ps, P (.goes m k ps)) (h4 : ∀ s, P s → P (.neg s)) (h5 : ∀ a l, l.All P → P (.conn a l)) (h6 : ∀ e nm s, P s → P (.bind e nm s)) : ∀ l : Sts, l.All P
  | .nil => trivial
  | .cons s l => ⟨St.ind h1 h2 h3 h4 h5 h6 s, Sts.ind h1 h2 h3 h4 h5 h6 l⟩
end
noncomputable def cw (a : Bool) : Str := if a then "and" else "or"
noncomputable def bw (a : Bool) : Str := if a then "some" else "all"
mutual
noncomputable def St.d : St → D
  | .above k ps => .tup [.str "above", sumD k ps]
  | .nought k ps => .tup [.str "nought", sumD k ps]
  | .goes m k ps => .tup [.str "goes", .int m, sumD k ps]
  | .neg s => .tup [.str "not", s.d]
  | .conn a l => .tup [.str (cw a), .tup l.ds]
  | .bind e nm s => .tup [.str (bw e), .str nm, s.d]
noncomputable def Sts.ds : Sts → List D
  | .nil => []
  | .cons s l => s.d :: l.ds
end
noncomputable def Sts.len : Sts → Nat
  | .nil => 0
  | .cons _ l => l.len + 1
theorem Sts.ds_len : ∀ l : Sts, l.ds.length = l.len
  | .nil => rfl
  | .cons s l => by simp [Sts.ds, Sts.len, Sts.ds_len l]
mutual
noncomputable def St.dp : St → Nat
  | .neg s => s.dp + 1
  | .conn _ l => l.dp + 1
  | .bind _ _ s => s.dp + 1
  | _ => 0
noncomputable def Sts.dp : Sts → Nat
  | .nil => 0
  | .cons s l => max s.dp l.dp
end
mutual
noncomputable def St.ev (vs : List (Str × Int)) : St → Bool
  | .above k ps => decide (0 < k + lin vs ps)
  | .nought k ps => k + lin vs ps == 0
  | .goes m k ps => (k + lin vs ps) % m == 0
  | .neg s => !s.ev vs
  | .conn a l => l.ev vs a
  | .bind _ _ s => s.ev vs
noncomputable def Sts.ev (vs : List (Str × Int)) (a : Bool) : Sts → Bool
  | .nil => a
  | .cons s l => if s.ev vs = a then l.ev vs a else !a
end
mutual
noncomputable def St.pl : St → Bool
  | .neg s => s.pl
  | .conn _ l => l.pl
  | .bind _ _ _ => false
  | _ => true
noncomputable def Sts.pl : Sts → Bool
  | .nil => true
  | .cons s l => s.pl && l.pl
end
mutual
noncomputable def St.fr (b : List Str) : St → List Str
  | .above _ ps => (ps.map (·.1)).filter fun x => !b.contains x
  | .nought _ ps => (ps.map (·.1)).filter fun x => !b.contains x
  | .goes _ _ ps => (ps.map (·.1)).filter fun x => !b.contains x
  | .neg s => s.fr b
  | .conn _ l => l.fr b []
  | .bind _ nm s => s.fr (b ++ [nm])
noncomputable def Sts.fr (b : List Str) (acc : List Str) : Sts → List Str
  | .nil => acc
  | .cons s l => l.fr b (acc ++ (s.fr b).filter fun x => !acc.contains x)
end
noncomputable def ga1 (b : List Str) (f : List Str) (x : Str) : List Str := if b.contains x then f else if x ∈ f then f else f ++ [x]
noncomputable def gaL (b : List Str) (f : List Str) (l : List Str) : List Str := l.foldl (ga1 b) f
mutual
noncomputable def St.ga (b f : List Str) : St → List Str
  | .above _ ps => gaL b f (ps.map (·.1))
  | .nought _ ps => gaL b f (ps.map (·.1))
  | .goes _ _ ps => gaL b f (ps.map (·.1))
  | .neg s => s.ga b f
  | .conn _ l => l.ga b f
  | .bind _ nm s => s.ga (b ++ [nm]) f
noncomputable def Sts.ga (b f : List Str) : Sts → List Str
  | .nil => f
  | .cons s l => l.ga b (s.ga b f)
end
mutual
noncomputable def St.oc (b : List Str) (x : Str) : St → Prop
  | .above _ ps => x ∈ ps.map (·.1) ∧ x ∉ b
  | .nought _ ps => x ∈ ps.map (·.1) ∧ x ∉ b
  | .goes _ _ ps => x ∈ ps.map (·.1) ∧ x ∉ b
  | .neg s => s.oc b x
  | .conn _ l => l.oc b x
  | .bind _ nm s => s.oc (b ++ [nm]) x
noncomputable def Sts.oc (b : List Str) (x : Str) : Sts → Prop
  | .nil => False
  | .cons s l => s.oc b x ∨ l.oc b x
end
theorem mem_fr_atom {b l : List Str} {x : Str} : x ∈ l.filter (fun x => !b.contains x) ↔ x ∈ l ∧ x ∉ b := by
  rw [List.mem_filter]; simp
mutual
theorem St.mem_fr (x : Str) : ∀ (s : St) (b : List Str), x ∈ s.fr b ↔ s.oc b x
  | .above _ ps, b => mem_fr_atom
  | .nought _ ps, b => mem_fr_atom
  | .goes _ _ ps, b => mem_fr_atom
  | .neg s, b => s.mem_fr x b
  | .conn _ l, b => (l.mem_fr x b []).trans ⟨fun h => h.resolve_left (fun q => by cases q), .inr⟩
  | .bind _ nm s, b => s.mem_fr x (b ++ [nm])
theorem Sts.mem_fr (x : Str) : ∀ (l : Sts) (b acc : List Str), x ∈ l.fr b acc ↔ x ∈ acc ∨ l.oc b x
  | .nil, b, acc => by simp [Sts.fr, Sts.oc]
  | .cons s l, b, acc => by
    rw [Sts.fr, l.mem_fr x b, List.mem_append, List.mem_filter, s.mem_fr x b, Sts.oc]
    constructor
    · rintro ((h | h) | h)
      · exact .inl h
      · exact .inr (.inl h.1)
      · exact .inr (.inr h)
    · rintro (h | h | h)
      · exact .inl (.inl h)
      · by_cases q : x ∈ acc
        · exact .inl (.inl q)
        · exact .inl (.inr ⟨h, by simpa using q⟩)
      · exact .inr h
end
theorem mem_gaL (b : List Str) (x : Str) : ∀ (l f : List Str), x ∈ gaL b f l ↔ x ∈ f ∨ (x ∈ l ∧ x ∉ b)
  | [], f => by simp [gaL]
  | y :: l, f => by
    have : gaL b f (y :: l) = gaL b (ga1 b f y) l := rfl
    rw [this, mem_gaL b x l]
    have e : x ∈ ga1 b f y ↔ x ∈ f ∨ (x = y ∧ x ∉ b) := by
      unfold ga1
      split
      · rename_i h
        have : y ∈ b := by simpa using h
        constructor
        · exact .inl
        · rintro (q | ⟨rfl, q⟩)
          · exact q
          · exact absurd this q
      · rename_i h
        have : y ∉ b := by simpa using h
        split
        · rename_i h2
          constructor
          · exact .inl
          · rintro (q | ⟨rfl, q⟩)
            · exact q
            · exact h2
        · rw [List.mem_append, List.mem_singleton]
          constructor
          · rintro (q | rfl)
            · exact .inl q
            · exact .inr ⟨rfl, this⟩
          · rintro (q | ⟨q, _⟩)
            · exact .inl q
            · exact .inr q
    rw [e, List.mem_cons]
    constructor
    · rintro ((h | ⟨h, h'⟩) | ⟨h, h'⟩)
      · exact .inl h
      · exact .inr ⟨.inl h, h'⟩
      · exact .inr ⟨.inr h, h'⟩
    · rintro (h | ⟨h | h, h'⟩)
      · exact .inl (.inl h)
      · exact .inl (.inr ⟨h, h'⟩)
      · exact .inr ⟨h, h'⟩
mutual
theorem St.mem_ga (x : Str) : ∀ (s : St) (b f : List Str), x ∈ s.ga b f ↔ x ∈ f ∨ s.oc b x
  | .above _ ps, b, f => mem_gaL b x _ f
  | .nought _ ps, b, f => mem_gaL b x _ f
  | .goes _ _ ps, b, f => mem_gaL b x _ f
  | .neg s, b, f => s.mem_ga x b f
  | .conn _ l, b, f => l.mem_ga x b f
  | .bind _ nm s, b, f => s.mem_ga x (b ++ [nm]) f
theorem Sts.mem_ga (x : Str) : ∀ (l : Sts) (b f : List Str), x ∈ l.ga b f ↔ x ∈ f ∨ l.oc b x
  | .nil, b, f => by simp [Sts.ga, Sts.oc]
  | .cons s l, b, f => by
    rw [Sts.ga, l.mem_ga x b, s.mem_ga x b f, Sts.oc, or_assoc]
end
theorem ga1_nodup {b f : List Str} {x : Str} (h : f.Nodup) : (ga1 b f x).Nodup := by
  unfold ga1
  split
  · exact h
  · split
    · exact h
    · rename_i q
      refine List.nodup_append.mpr ⟨h, by simp, ?_⟩
      intro a ha c hc e
      rw [List.mem_singleton] at hc
      subst hc; subst e; exact q ha
theorem gaL_nodup (b : List Str) : ∀ (l f : List Str), f.Nodup → (gaL b f l).Nodup
  | [], f, h => h
  | y :: l, f, h => gaL_nodup b l _ (ga1_nodup h)
mutual
theorem St.ga_nodup : ∀ (s : St) (b f : List Str), f.Nodup → (s.ga b f).Nodup
  | .above _ ps, b, f, h => gaL_nodup b _ f h
  | .nought _ ps, b, f, h => gaL_nodup b _ f h
  | .goes _ _ ps, b, f, h => gaL_nodup b _ f h
  | .neg s, b, f, h => s.ga_nodup b f h
  | .conn _ l, b, f, h => l.ga_nodup b f h
  | .bind _ nm s, b, f, h => s.ga_nodup (b ++ [nm]) f h
theorem Sts.ga_nodup : ∀ (l : Sts) (b f : List Str), f.Nodup → (l.ga b f).Nodup
  | .nil, b, f, h => h
  | .cons s l, b, f, h => l.ga_nodup b _ (s.ga_nodup b f h)
end
structure GS (ss : List Str) (M : Nat) (k : Int) (ps : List (Str × Int)) : Prop where
  good : Good ss ps
  bd : ∀ p ∈ ps, p.2.natAbs ≤ M
  kb : k.natAbs ≤ M
mutual
noncomputable def St.Gd (ss : List Str) (M : Nat) : St → Prop
  | .above k ps => GS ss M k ps
  | .nought k ps => GS ss M k ps
  | .goes m k ps => (0 < m ∧ m.natAbs ≤ M) ∧ GS ss M k ps
  | .neg s => s.Gd ss M
  | .conn _ l => l.len ≤ 30 ∧ l.Gd ss M
  | .bind _ nm s => nm ∈ ss ∧ s.Gd ss M
noncomputable def Sts.Gd (ss : List Str) (M : Nat) : Sts → Prop
  | .nil => True
  | .cons s l => s.Gd ss M ∧ l.Gd ss M
end
theorem GS.mono {ss ss' : List Str} {M M' : Nat} {k : Int} {ps : List (Str × Int)} (h : GS ss M k ps) (hs : ∀ x ∈ ps.map (·.1), x ∈ ss') (hm : M ≤ M') : GS ss' M' k ps :=
  ⟨⟨h.good.inc, h.good.nz, fun p hp => hs _ (List.mem_map.mpr ⟨p, hp, rfl⟩)⟩, fun p hp => Nat.le_trans (h.bd p hp) hm, Nat.le_trans h.kb hm⟩
theorem Sts.All.imp {P Q : St → Prop} (h : ∀ s, P s → Q s) : ∀ {l : Sts}, l.All P → l.All Q
  | .nil, _ => trivial
  | .cons s l, ⟨h1, h2⟩ => ⟨h s h1, Sts.All.imp h h2⟩
mutual
theorem St.Gd.mono {ss ss' : List Str} {M M' : Nat} (hs : ∀ x ∈ ss, x ∈ ss') (hm : M ≤ M') : ∀ {s : St}, s.Gd ss M → s.Gd ss' M'
  | .above k ps, h => GS.mono h (fun x hx => by obtain ⟨p, hp, rfl⟩ := List.mem_map.mp hx; exact hs _ (h.good.mem p hp)) hm
  | .nought k ps, h => GS.mono h (fun x hx => by obtain ⟨p, hp, rfl⟩ := List.mem_map.mp hx; exact hs _ (h.good.mem p hp)) hm
  | .goes m k ps, h => ⟨⟨h.1.1, Nat.le_trans h.1.2 hm⟩, GS.mono h.2 (fun x hx => by obtain ⟨p, hp, rfl⟩ := List.mem_map.mp hx; exact hs _ (h.2.good.mem p hp)) hm⟩
  | .neg s, h => St.Gd.mono hs hm (s := s) h
  | .conn _ l, h => ⟨h.1, Sts.Gd.mono hs hm h.2⟩
  | .bind _ nm s, h => ⟨hs _ h.1, St.Gd.mono hs hm h.2⟩
theorem Sts.Gd.mono {ss ss' : List Str} {M M' : Nat} (hs : ∀ x ∈ ss, x ∈ ss') (hm : M ≤ M') : ∀ {l : Sts}, l.Gd ss M → l.Gd ss' M'
  | .nil, _ => trivial
  | .cons s l, h => ⟨St.Gd.mono hs hm h.1, Sts.Gd.mono hs hm h.2⟩
end
theorem oc_atom {ss b : List Str} {M : Nat} {k : Int} {ps : List (Str × Int)} {x : Str} (h : GS ss M k ps) (hx : x ∈ ps.map (·.1) ∧ x ∉ b) : x ∈ ss := by
  obtain ⟨p, hp, rfl⟩ := List.mem_map.mp hx.1
  exact h.good.mem p hp
mutual
theorem St.oc_mem {ss : List Str} {M : Nat} {x : Str} : ∀ (s : St) (b : List Str), s.Gd ss M → s.oc b x → x ∈ ss
  | .above _ ps, b, g, h => oc_atom g h
  | .nought _ ps, b, g, h => oc_atom g h
  | .goes _ _ ps, b, g, h => oc_atom g.2 h
  | .neg s, b, g, h => s.oc_mem b g h
  | .conn _ l, b, g, h => l.oc_mem b g.2 h
  | .bind _ nm s, b, g, h => s.oc_mem (b ++ [nm]) g.2 h
theorem Sts.oc_mem {ss : List Str} {M : Nat} {x : Str} : ∀ (l : Sts) (b : List Str), l.Gd ss M → l.oc b x → x ∈ ss
  | .nil, b, g, h => h.elim
  | .cons s l, b, g, h => h.elim (s.oc_mem b g.1) (l.oc_mem b g.2)
end
mutual
theorem St.fr_nodup {ss : List Str} {M : Nat} : ∀ (s : St) (b : List Str), s.Gd ss M → (s.fr b).Nodup
  | .above _ ps, b, g => (strict_nodup g.good.inc).filter _
  | .nought _ ps, b, g => (strict_nodup g.good.inc).filter _
  | .goes _ _ ps, b, g => (strict_nodup g.2.good.inc).filter _
  | .neg s, b, g => s.fr_nodup b g
  | .conn _ l, b, g => l.fr_nodup b [] g.2 .nil
  | .bind _ nm s, b, g => s.fr_nodup (b ++ [nm]) g.2
theorem Sts.fr_nodup {ss : List Str} {M : Nat} : ∀ (l : Sts) (b acc : List Str), l.Gd ss M → acc.Nodup → (l.fr b acc).Nodup
  | .nil, b, acc, g, h => h
  | .cons s l, b, acc, g, h => l.fr_nodup b _ g.2 (List.nodup_append.mpr ⟨h, (s.fr_nodup b g.1).filter _, fun a ha c hc e => by
      subst e
      have := (List.mem_filter.mp hc).2
      simp at this; exact this ha⟩)
end
theorem nodup_len : ∀ {l m : List Str}, l.Nodup → (∀ x ∈ l, x ∈ m) → l.length ≤ m.length
  | [], m, _, _ => Nat.zero_le _
  | a :: l, m, h, hs => by
    rw [List.nodup_cons] at h
    have ha := hs a List.mem_cons_self
    have := nodup_len (l := l) (m := m.erase a) h.2 fun x hx => (List.mem_erase_of_ne (show x ≠ a from fun e => h.1 (e ▸ hx))).mpr (hs x (List.mem_cons_of_mem _ hx))
    rw [List.length_erase_of_mem ha] at this
    have hp := List.length_pos_of_mem ha
    rw [List.length_cons]; omega
theorem St.fr_len {ss : List Str} {M : Nat} {s : St} {b : List Str} (g : s.Gd ss M) : (s.fr b).length ≤ ss.length := nodup_len (s.fr_nodup b g) fun x hx => s.oc_mem b g ((s.mem_fr x b).mp hx)
end Mine
end

section
open PySem PySem.W PyProof.Rows PyProof
set_option linter.unusedVariables false
namespace Mine
noncomputable def sumK (c : Int) (names : List Str) : Int := nxt (sumN c (srt names)) / 7 % 19 - 9
noncomputable def endSt (c : Int) (names : List Str) (wide most : Int) : St :=
  if c % 4 = 3 then .nought (sumK (c / 12) names) (sumL wide (c / 12) (srt names))
  else if c % 4 = 2 then .goes (1 + c / 4 % most) (sumK (c / 12) names) (sumL wide (c / 12) (srt names))
  else .above (sumK (c / 12) names) (sumL wide (c / 12) (srt names))
noncomputable def l1 (a : St) : Sts := .cons a .nil
noncomputable def l2 (a b : St) : Sts := .cons a (.cons b .nil)
noncomputable def l3 (a b c : St) : Sts := .cons a (.cons b (.cons c .nil))
noncomputable def rep (e : St) : Nat → Sts
  | 0 => .nil
  | n + 1 => .cons e (rep e n)
noncomputable def yes : St := .conn true .nil
noncomputable def no : St := .conn false .nil
noncomputable def w01 (c : Int) (e m : St) : St := if c % 9 < 2 then .conn (decide (c % 9 = 0)) (l2 m e) else m
noncomputable def w2 (c : Int) (e m : St) : St := if c % 9 = 2 then .conn false (l2 (.neg m) e) else m
noncomputable def w3 (c : Int) (e m : St) : St := if c % 9 = 3 then .neg (.conn true (l3 e m yes)) else m
noncomputable def w4 (c : Int) (e m : St) : St := if c % 9 = 4 then .conn true (l2 (.conn false (l2 e m)) (.neg e)) else m
noncomputable def w5 (c : Int) (e m : St) : St := if c % 9 = 5 then .conn false (l3 e no m) else m
noncomputable def w6 (c : Int) (e m : St) : St := if c % 9 = 6 then .conn true (l2 (.neg (.neg m)) (.neg e)) else m
noncomputable def w7 (c : Int) (e m : St) : St := if c % 9 = 7 then .conn true (l2 (.conn false (l1 m)) (.conn false (l1 (.conn true (l1 e))))) else m
noncomputable def w8 (c : Int) (e m : St) : St := if c % 9 = 8 then .conn (decide (c / 9 % 2 = 0)) (.cons e (.cons e (.cons m (rep e (1 + c / 18 % 18).toNat)))) else m
noncomputable def stepSt (c : Int) (e m : St) : St := w8 c e (w7 c e (w6 c e (w5 c e (w4 c e (w3 c e (w2 c e (w01 c e m)))))))
theorem rep_len (e : St) : ∀ n, (rep e n).len = n
  | 0 => rfl
  | n + 1 => by simp [rep, Sts.len, rep_len e n]
theorem rep_ds (e : St) : ∀ n, (rep e n).ds = List.replicate n e.d
  | 0 => rfl
  | n + 1 => by rw [rep, Sts.ds, rep_ds e n]; rfl
structure Kept (P : St → Prop) : Prop where
  neg : ∀ s, P s → P (.neg s)
  conn : ∀ a l, l.len ≤ 22 → l.All P → P (.conn a l)
theorem Kept.rep {P : St → Prop} {e : St} (he : P e) : ∀ n, (rep e n).All P
  | 0 => trivial
  | n + 1 => ⟨he, Kept.rep he n⟩
theorem Kept.step {P : St → Prop} (k : Kept P) {c : Int} {e m : St} (he : P e) (hm : P m) : P (stepSt c e m) := by
  have hy : P yes := k.conn true .nil (Nat.zero_le _) trivial
  have hn : P no := k.conn false .nil (Nat.zero_le _) trivial
  have h1 : ∀ {m}, P m → P (w01 c e m) := fun {m} hm => by
    unfold w01; split
    · exact k.conn _ _ (show 2 ≤ 22 by decide) ⟨hm, he, trivial⟩
    · exact hm
  have h2 : ∀ {m}, P m → P (w2 c e m) := fun {m} hm => by
    unfold w2; split
    · exact k.conn _ _ (show 2 ≤ 22 by decide) ⟨k.neg _ hm, he, trivial⟩
    · exact hm
  have h3 : ∀ {m}, P m → P (w3 c e m) := fun {m} hm => by
    unfold w3; split
    · exact k.neg _ (k.conn _ _ (show 3 ≤ 22 by decide) ⟨he, hm, hy, trivial⟩)
    · exact hm
  have h4 : ∀ {m}, P m → P (w4 c e m) := fun {m} hm => by
    unfold w4; split
    · exact k.conn _ _ (show 2 ≤ 22 by decide) ⟨k.conn _ _ (show 2 ≤ 22 by decide) ⟨he, hm, trivial⟩, k.neg _ he, trivial⟩
    · exact hm
  have h5 : ∀ {m}, P m → P (w5 c e m) := fun {m} hm => by
    unfold w5; split
    · exact k.conn _ _ (show 3 ≤ 22 by decide) ⟨he, hn, hm, trivial⟩
    · exact hm
  have h6 : ∀ {m}, P m → P (w6 c e m) := fun {m} hm => by
    unfold w6; split
    · exact k.conn _ _ (show 2 ≤ 22 by decide) ⟨k.neg _ (k.neg _ hm), k.neg _ he, trivial⟩
    · exact hm
  have h7 : ∀ {m}, P m → P (w7 c e m) := fun {m} hm => by
    unfold w7; split
    · exact k.conn _ _ (show 2 ≤ 22 by decide) ⟨k.conn _ _ (show 1 ≤ 22 by decide) ⟨hm, trivial⟩, k.conn _ _ (show 1 ≤ 22 by decide) ⟨k.conn _ _ (show 1 ≤ 22 by decide) ⟨he, trivial⟩, trivial⟩, trivial⟩
    · exact hm
  have h8 : ∀ {m}, P m → P (w8 c e m) := fun {m} hm => by
    unfold w8; split
    · refine k.conn _ _ ?_ ⟨he, he, hm, Kept.rep he _⟩
      simp only [Sts.len, rep_len]; omega
    · exact hm
  exact h8 (h7 (h6 (h5 (h4 (h3 (h2 (h1 hm)))))))
noncomputable def cellAt (is : List Int) (k : Int) : Int := if k < is.length then is.getD k.toNat 0 else 0
noncomputable def plainC (is : List Int) (first k : Int) : Int := cellAt is (first + k) + 104729 * k
noncomputable def plainGo (is : List Int) (first : Int) (names : List Str) (wide most : Int) : Int → Nat → St → St
  | _, 0, m => m
  | k, j + 1, m => plainGo is first names wide most (k + 1) j (stepSt (plainC is first k) (endSt (plainC is first k / 9) names wide most) m)
noncomputable def plainN (is : List Int) (first : Int) (names : List Str) : List Str := if cellAt is first % 13 = 12 then [] else names
noncomputable def plainSt (is : List Int) (first count : Int) (names : List Str) (wide most : Int) : St :=
  if cellAt is first % 26 = 25 then yes
  else plainGo is first (plainN is first names) wide most 1 (count - 1).toNat (endSt (cellAt is first) (plainN is first names) wide most)
theorem Kept.go {P : St → Prop} (k : Kept P) {is : List Int} {first wide most : Int} {names : List Str} (he : ∀ c, P (endSt c names wide most)) : ∀ (j : Nat) (i : Int) (m : St), P m → P (plainGo is first names wide most i j m)
  | 0, i, m, hm => hm
  | j + 1, i, m, hm => Kept.go k he j (i + 1) _ (k.step (he _) hm)
theorem Kept.plain {P : St → Prop} (k : Kept P) {is : List Int} {first count wide most : Int} {names : List Str} (he : ∀ c, P (endSt c names wide most)) (he0 : ∀ c, P (endSt c [] wide most)) : P (plainSt is first count names wide most) := by
  unfold plainSt
  split
  · exact k.conn true .nil (Nat.zero_le _) trivial
  · unfold plainN
    split
    · exact k.go he0 _ _ _ (he0 _)
    · exact k.go he _ _ _ (he _)
theorem Sts.Gd.of {ss : List Str} {M : Nat} : ∀ {l : Sts}, l.All (fun s => s.Gd ss M) → l.Gd ss M
  | .nil, _ => trivial
  | .cons s l, h => ⟨h.1, Sts.Gd.of h.2⟩
theorem Kept.gd (ss : List Str) (M : Nat) : Kept fun s => s.Gd ss M := ⟨fun s h => h, fun a l hl h => ⟨Nat.le_trans hl (by decide), Sts.Gd.of h⟩⟩
theorem Sts.pl_of : ∀ {l : Sts}, l.All (fun s => s.pl = true) → l.pl = true
  | .nil, _ => rfl
  | .cons s l, h => by rw [Sts.pl, h.1, Sts.pl_of h.2]; rfl
theorem plAll : ∀ l : Sts, l.pl = true → l.All fun s => s.pl = true
  | .nil, _ => trivial
  | .cons s l, h => by
    rw [Sts.pl, Bool.and_eq_true] at h
    exact ⟨h.1, plAll l h.2⟩
theorem Kept.pl : Kept fun s => s.pl = true := ⟨fun s h => h, fun a l hl h => Sts.pl_of h⟩
theorem end_pl (c : Int) (names : List Str) (wide most : Int) : (endSt c names wide most).pl = true := by
  unfold endSt; split
  · rfl
  · split <;> rfl
theorem plain_pl {is : List Int} {first count wide most : Int} {names : List Str} : (plainSt is first count names wide most).pl = true := Kept.pl.plain (fun _ => end_pl ..) (fun _ => end_pl ..)
theorem sumK_bd (c : Int) (names : List Str) : (sumK c names).natAbs ≤ 10 := by unfold sumK; omega
theorem end_gd {ss names : List Str} {c wide most : Int} {M : Nat} (nd : names.Nodup) (hs : ∀ x ∈ names, x ∈ ss) (hw : 0 ≤ wide) (hwM : wide.natAbs ≤ M) (hm : 0 < most) (hM : most.natAbs ≤ M) (hM10 : 10 ≤ M) : (endSt c names wide most).Gd ss M := by
  have g : GS ss M (sumK (c / 12) names) (sumL wide (c / 12) (srt names)) := by
    refine ⟨Good.sum nd hs, fun p hp => ?_, Nat.le_trans (sumK_bd _ _) hM10⟩
    have := sumL_bd hw _ _ p hp
    omega
  unfold endSt; split
  · exact g
  · split
    · refine ⟨?_, g⟩
      have h1 := Int.emod_nonneg (c / 4) (show most ≠ 0 by omega)
      have h2 := Int.emod_lt_of_pos (c / 4) hm
      omega
    · exact g
theorem plain_gd {ss names : List Str} {is : List Int} {first count wide most : Int} {M : Nat} (nd : names.Nodup) (hs : ∀ x ∈ names, x ∈ ss) (hw : 0 ≤ wide) (hwM : wide.natAbs ≤ M) (hm : 0 < most) (hM : most.natAbs ≤ M) (hM10 : 10 ≤ M) :
    (plainSt is first count names wide most).Gd ss M := (Kept.gd ss M).plain (fun _ => end_gd nd hs hw hwM hm hM hM10) (fun _ => end_gd .nil (fun x hx => by cases hx) hw hwM hm hM hM10)
theorem Sts.dp_of {n : Nat} : ∀ {l : Sts}, l.All (fun s => s.dp ≤ n) → l.dp ≤ n
  | .nil, _ => Nat.zero_le _
  | .cons s l, h => Nat.max_le.mpr ⟨h.1, Sts.dp_of h.2⟩
theorem end_dp (c : Int) (names : List Str) (wide most : Int) : (endSt c names wide most).dp = 0 := by
  unfold endSt; split
  · rfl
  · split <;> rfl
theorem rep_dp {e : St} (he : e.dp = 0) : ∀ n, (rep e n).dp = 0
  | 0 => rfl
  | n + 1 => by rw [rep, Sts.dp, he, rep_dp he n]; rfl
theorem step_dp {c : Int} {e m : St} (he : e.dp = 0) : (stepSt c e m).dp ≤ m.dp + 24 := by
  have h1 : ∀ m, (w01 c e m).dp ≤ m.dp + 3 := fun m => by unfold w01; split <;> simp [St.dp, Sts.dp, l2, he] <;> omega
  have h2 : ∀ m, (w2 c e m).dp ≤ m.dp + 3 := fun m => by unfold w2; split <;> simp [St.dp, Sts.dp, l2, he] <;> omega
  have h3 : ∀ m, (w3 c e m).dp ≤ m.dp + 3 := fun m => by unfold w3; split <;> simp [St.dp, Sts.dp, l3, yes, he] <;> omega
  have h4 : ∀ m, (w4 c e m).dp ≤ m.dp + 3 := fun m => by unfold w4; split <;> simp [St.dp, Sts.dp, l2, he] <;> omega
  have h5 : ∀ m, (w5 c e m).dp ≤ m.dp + 3 := fun m => by unfold w5; split <;> simp [St.dp, Sts.dp, l3, no, he] <;> omega
  have h6 : ∀ m, (w6 c e m).dp ≤ m.dp + 3 := fun m => by unfold w6; split <;> simp [St.dp, Sts.dp, l2, he] <;> omega
  have h7 : ∀ m, (w7 c e m).dp ≤ m.dp + 3 := fun m => by unfold w7; split <;> simp [St.dp, Sts.dp, l1, l2, he] <;> omega
  have h8 : ∀ m, (w8 c e m).dp ≤ m.dp + 3 := fun m => by unfold w8; split <;> simp [St.dp, Sts.dp, rep_dp he, he]
  unfold stepSt
  have a1 := h1 m
  have a2 := h2 (w01 c e m)
  have a3 := h3 (w2 c e (w01 c e m))
  have a4 := h4 (w3 c e (w2 c e (w01 c e m)))
  have a5 := h5 (w4 c e (w3 c e (w2 c e (w01 c e m))))
  have a6 := h6 (w5 c e (w4 c e (w3 c e (w2 c e (w01 c e m)))))
  have a7 := h7 (w6 c e (w5 c e (w4 c e (w3 c e (w2 c e (w01 c e m))))))
  have a8 := h8 (w7 c e (w6 c e (w5 c e (w4 c e (w3 c e (w2 c e (w01 c e m)))))))
  omega
theorem go_dp {is : List Int} {first wide most : Int} {names : List Str} : ∀ (j : Nat) (i : Int) (m : St), (plainGo is first names wide most i j m).dp ≤ m.dp + 24 * j
  | 0, i, m => by simp [plainGo]
  | j + 1, i, m => by
    have h1 := go_dp (is := is) (first := first) (wide := wide) (most := most) (names := names) j (i + 1) (stepSt (plainC is first i) (endSt (plainC is first i / 9) names wide most) m)
    have h2 := step_dp (c := plainC is first i) (e := endSt (plainC is first i / 9) names wide most) (m := m) (end_dp ..)
    rw [plainGo]; omega
theorem plain_dp {is : List Int} {first count wide most : Int} {names : List Str} (h : count ≤ 6) : (plainSt is first count names wide most).dp ≤ 120 := by
  unfold plainSt
  split
  · exact (by decide : 1 ≤ 120)
  · have := go_dp (is := is) (first := first) (wide := wide) (most := most) (names := plainN is first names) (count - 1).toNat 1 (endSt (cellAt is first) (plainN is first names) wide most)
    rw [end_dp] at this; omega
noncomputable def boundSt (c : Int) (s : St) (names : List Str) : St :=
  let i : St := .bind (decide (c % 2 = 0)) (names.getD (c / 2 % 4).toNat default) s
  if c / 8 % 4 = 0 then i else if c / 8 % 4 = 1 then .neg i else if c / 8 % 4 = 2 then .conn true (l2 s i) else .conn false (l2 yes (.neg (.conn false (l2 i s))))
theorem bound_gd {ss names : List Str} {M : Nat} {c : Int} {s : St} (g : s.Gd ss M) (h4 : names.length = 4) (hs : ∀ x ∈ names, x ∈ ss) : (boundSt c s names).Gd ss M := by
  have hj : (c / 2 % 4).toNat < names.length := by rw [h4]; omega
  have hn : names.getD (c / 2 % 4).toNat default ∈ ss := by
    rw [List.getD_eq_getElem?_getD, List.getElem?_eq_getElem hj]; exact hs _ (List.getElem_mem hj)
  have gi : St.Gd ss M (.bind (decide (c % 2 = 0)) (names.getD (c / 2 % 4).toNat default) s) := ⟨hn, g⟩
  unfold boundSt
  dsimp only
  split
  · exact gi
  · split
    · exact gi
    · split
      · exact ⟨(show 2 ≤ 30 by decide), g, gi, trivial⟩
      · exact ⟨(show 2 ≤ 30 by decide), ⟨(show 0 ≤ 30 by decide), trivial⟩, ⟨(show 2 ≤ 30 by decide), gi, g, trivial⟩, trivial⟩
theorem bound_dp {names : List Str} {c : Int} {s : St} : (boundSt c s names).dp ≤ s.dp + 4 := by
  unfold boundSt
  dsimp only
  split
  · simp [St.dp]
  · split
    · simp [St.dp]
    · split <;> simp [St.dp, Sts.dp, l2, yes] <;> omega
theorem bound_pl {names : List Str} {c : Int} {s : St} : (boundSt c s names).pl = false := by
  unfold boundSt
  dsimp only
  split
  · rfl
  · split
    · rfl
    · split <;> simp [St.pl, Sts.pl, l2, yes]
end Mine
end

section
open PySem PySem.W PyProof.Rows PyProof
set_option linter.unusedVariables false
namespace Mine
noncomputable def neg1 (ps : List (Str × Int)) : List (Str × Int) := madeL (scl (-1) ps)
mutual
noncomputable def St.pu (g : Bool) : St → St
  | .above k ps => if g then .above k ps else .above (1 + -1 * k) (madeL (neg1 ps))
  | .nought k ps => if g then .conn true (l2 (.above (1 + k) (madeL ps)) (.above (1 + -1 * k) (madeL (neg1 ps)))) else .conn false (l2 (.above k ps) (.above (-1 * k) (neg1 ps)))
  | .goes m k ps => if g then .goes m k ps else .neg (.goes m k ps)
  | .neg s => s.pu (!g)
  | .conn a l => .conn (if g then a else !a) (l.pu g)
  | .bind e nm s => .bind e nm s
noncomputable def Sts.pu (g : Bool) : Sts → Sts
  | .nil => .nil
  | .cons s l => .cons (s.pu g) (l.pu g)
end
theorem lin_neg1 (vs ps : List (Str × Int)) : lin vs (neg1 ps) = - lin vs ps := by
  unfold neg1; rw [lin_made, lin_scl]; omega
theorem Sts.pu_len (g : Bool) : ∀ l : Sts, (l.pu g).len = l.len
  | .nil => rfl
  | .cons s l => by simp [Sts.pu, Sts.len, Sts.pu_len g l]
noncomputable def turn (g b : Bool) : Bool := if g then b else !b
mutual
theorem St.ev_pu (vs : List (Str × Int)) : ∀ (s : St) (g : Bool), s.pl = true → (s.pu g).ev vs = turn g (s.ev vs)
  | .above k ps, g, _ => by
    cases g with
    | true => rfl
    | false =>
      show decide (0 < 1 + -1 * k + lin vs (madeL (neg1 ps))) = !decide (0 < k + lin vs ps)
      rw [lin_made, lin_neg1, ← decide_not]
      exact decide_eq_decide.mpr (by omega)
  | .nought k ps, g, _ => by
    cases g with
    | true =>
      show (if decide (0 < 1 + k + lin vs (madeL ps)) = true then (if decide (0 < 1 + -1 * k + lin vs (madeL (neg1 ps))) = true then true else false) else false) = (k + lin vs ps == 0)
      rw [lin_made, lin_made, lin_neg1, Bool.eq_iff_iff]
      simp only [decide_eq_true_eq, beq_iff_eq]
      split
      · split
        · simp; omega
        · simp; omega
      · simp; omega
    | false =>
      show (if decide (0 < k + lin vs ps) = false then (if decide (0 < -1 * k + lin vs (neg1 ps)) = false then false else true) else true) = !(k + lin vs ps == 0)
      rw [lin_neg1, Bool.eq_iff_iff]
      simp only [decide_eq_false_iff_not, Bool.not_eq_true', beq_eq_false_iff_ne, ne_eq]
      split
      · split
        · simp; omega
        · simp; omega
      · simp; omega
  | .goes m k ps, g, _ => by cases g <;> rfl
  | .neg s, g, h => by
    show (s.pu (!g)).ev vs = turn g (!s.ev vs)
    rw [s.ev_pu vs (!g) h]
    cases g <;> cases s.ev vs <;> rfl
  | .conn a l, g, h => l.ev_pu vs g a h
theorem Sts.ev_pu (vs : List (Str × Int)) : ∀ (l : Sts) (g a : Bool), l.pl = true → (l.pu g).ev vs (if g then a else !a) = turn g (l.ev vs a)
  | .nil, g, a, _ => by cases g <;> rfl
  | .cons s l, g, a, h => by
    rw [Sts.pl, Bool.and_eq_true] at h
    rw [Sts.pu, Sts.ev, Sts.ev, s.ev_pu vs g h.1, l.ev_pu vs g a h.2]
    cases g <;> cases a <;> cases s.ev vs <;> rfl
end
mutual
noncomputable def St.sg : St → Bool
  | .above _ _ => true
  | .nought _ _ => false
  | .goes _ _ _ => true
  | .neg s => match s with | .goes _ _ _ => true | _ => false
  | .conn _ l => l.sg
  | .bind _ _ _ => false
noncomputable def Sts.sg : Sts → Bool
  | .nil => true
  | .cons s l => s.sg && l.sg
end
mutual
theorem St.sg_pu : ∀ (s : St) (g : Bool), s.pl = true → (s.pu g).sg = true
  | .above k ps, g, _ => by cases g <;> rfl
  | .nought k ps, g, _ => by cases g <;> rfl
  | .goes m k ps, g, _ => by cases g <;> rfl
  | .neg s, g, h => s.sg_pu (!g) h
  | .conn a l, g, h => l.sg_pu g h
theorem Sts.sg_pu : ∀ (l : Sts) (g : Bool), l.pl = true → (l.pu g).sg = true
  | .nil, g, _ => rfl
  | .cons s l, g, h => by
    rw [Sts.pl, Bool.and_eq_true] at h
    rw [Sts.pu, Sts.sg, s.sg_pu g h.1, l.sg_pu g h.2]; rfl
end
theorem Good.madeOf {ss : List Str} {ps : List (Str × Int)} (h : Good ss ps) : Good ss (madeL ps) := Good.made h.mem
theorem Good.neg1 {ss : List Str} {ps : List (Str × Int)} (h : Good ss ps) : Good ss (neg1 ps) := Good.made fun p hp => by
  obtain ⟨q, hq, rfl⟩ := List.mem_map.mp hp; exact h.mem q hq
theorem madeL_bd {M : Nat} {ps : List (Str × Int)} (nd : (ps.map (·.1)).Nodup) (h : ∀ p ∈ ps, p.2.natAbs ≤ M) : ∀ p ∈ madeL ps, p.2.natAbs ≤ M := fun p hp => by
  obtain ⟨k, hk, rfl⟩ := List.mem_map.mp hp
  have hne : sumOf k ps ≠ 0 := by simpa using (List.mem_filter.mp hk).2
  show (sumOf k ps).natAbs ≤ M
  have one : ∀ (ps : List (Str × Int)), (ps.map (·.1)).Nodup → (∀ p ∈ ps, p.2.natAbs ≤ M) → (sumOf k ps).natAbs ≤ M := by
    intro ps
    induction ps with
    | nil => intro _ _; simp [sumOf]
    | cons p ps ih =>
      intro nd h
      rw [List.map_cons, List.nodup_cons] at nd
      rw [sumOf_cons]
      by_cases e : p.1 = k
      · rw [if_pos e, sumOf_none k ps (e ▸ nd.1)]; have := h p List.mem_cons_self; omega
      · rw [if_neg e]; have := ih nd.2 fun q hq => h q (List.mem_cons_of_mem _ hq); omega
  exact one ps nd h
theorem GS.made {ss : List Str} {M : Nat} {k k' : Int} {ps : List (Str × Int)} (g : GS ss M k ps) (hk : k'.natAbs ≤ M + 1) : GS ss (M + 1) k' (madeL ps) :=
  ⟨g.good.madeOf, fun p hp => Nat.le_succ_of_le (madeL_bd (strict_nodup g.good.inc) g.bd p hp), hk⟩
theorem GS.neg1 {ss : List Str} {M : Nat} {k k' : Int} {ps : List (Str × Int)} (g : GS ss M k ps) (hk : k'.natAbs ≤ M) : GS ss M k' (neg1 ps) := by
  refine ⟨g.good.neg1, madeL_bd ?_ fun p hp => ?_, hk⟩
  · have : (scl (-1) ps).map (·.1) = ps.map (·.1) := by unfold scl; rw [List.map_map]; rfl
    rw [this]; exact strict_nodup g.good.inc
  · obtain ⟨q, hq, rfl⟩ := List.mem_map.mp hp
    have := g.bd q hq
    show (-1 * q.2).natAbs ≤ M
    omega
mutual
theorem St.gd_pu {ss : List Str} {M : Nat} : ∀ (s : St) (g : Bool), s.pl = true → s.Gd ss M → (s.pu g).Gd ss (M + 1)
  | .above k ps, g, _, h => by
    have hk : k.natAbs ≤ M := GS.kb h
    cases g with
    | true => exact GS.mono h (fun x hx => by obtain ⟨p, hp, rfl⟩ := List.mem_map.mp hx; exact h.good.mem p hp) (Nat.le_succ M)
    | false => exact GS.made (k := -1 * k) (GS.neg1 h (by omega)) (by omega)
  | .nought k ps, g, _, h => by
    have hk : k.natAbs ≤ M := GS.kb h
    cases g with
    | true => exact ⟨(show 2 ≤ 30 by decide), GS.made h (by omega), GS.made (k := -1 * k) (GS.neg1 h (by omega)) (by omega), trivial⟩
    | false =>
      have h1 : GS ss (M + 1) k ps := GS.mono h (fun x hx => by obtain ⟨p, hp, rfl⟩ := List.mem_map.mp hx; exact h.good.mem p hp) (Nat.le_succ M)
      exact ⟨(show 2 ≤ 30 by decide), h1, GS.neg1 h1 (by omega), trivial⟩
  | .goes m k ps, g, _, h => by
    have h1 : St.Gd ss (M + 1) (.goes m k ps) := St.Gd.mono (fun x hx => hx) (Nat.le_succ M) (s := .goes m k ps) h
    cases g <;> exact h1
  | .neg s, g, hp, h => s.gd_pu (!g) hp h
  | .conn a l, g, hp, h => ⟨by rw [Sts.pu_len]; exact h.1, l.gd_pu g hp h.2⟩
theorem Sts.gd_pu {ss : List Str} {M : Nat} : ∀ (l : Sts) (g : Bool), l.pl = true → l.Gd ss M → (l.pu g).Gd ss (M + 1)
  | .nil, g, _, _ => trivial
  | .cons s l, g, hp, h => by
    rw [Sts.pl, Bool.and_eq_true] at hp
    exact ⟨s.gd_pu g hp.1 h.1, l.gd_pu g hp.2 h.2⟩
end
mutual
theorem St.pl_pu : ∀ (s : St) (g : Bool), s.pl = true → (s.pu g).pl = true
  | .above k ps, g, _ => by cases g <;> rfl
  | .nought k ps, g, _ => by cases g <;> rfl
  | .goes m k ps, g, _ => by cases g <;> rfl
  | .neg s, g, h => s.pl_pu (!g) h
  | .conn a l, g, h => l.pl_pu g h
theorem Sts.pl_pu : ∀ (l : Sts) (g : Bool), l.pl = true → (l.pu g).pl = true
  | .nil, g, _ => rfl
  | .cons s l, g, h => by
    rw [Sts.pl, Bool.and_eq_true] at h
    rw [Sts.pu, Sts.pl, s.pl_pu g h.1, l.pl_pu g h.2]; rfl
end
mutual
theorem St.dp_pu : ∀ (s : St) (g : Bool), (s.pu g).dp ≤ s.dp + 1
  | .above k ps, g => by cases g <;> exact Nat.zero_le _
  | .nought k ps, g => by cases g <;> exact (by decide : 1 ≤ 1)
  | .goes m k ps, g => by cases g <;> simp [St.pu, St.dp]
  | .neg s, g => Nat.le_succ_of_le (s.dp_pu (!g))
  | .conn a l, g => Nat.succ_le_succ (l.dp_pu g)
  | .bind e nm s, g => by simp [St.pu, St.dp]
theorem Sts.dp_pu : ∀ (l : Sts) (g : Bool), (l.pu g).dp ≤ l.dp + 1
  | .nil, g => Nat.zero_le _
  | .cons s l, g => by
    have h1 := s.dp_pu g
    have h2 := l.dp_pu g
    simp only [Sts.pu, Sts.dp]; omega
end
theorem sub_fr {b acc : List Str} {s : St} {l : Sts} {x : Str} (h : s.oc b x) : (Sts.cons s l).oc b x := .inl h
mutual
theorem St.gd_oc {ss : List Str} {M : Nat} (T : Str → Prop) : ∀ (s : St), s.pl = true → s.Gd ss M → (∀ x, s.oc [] x → T x) → ∀ ss', (∀ x, T x → x ∈ ss') → s.Gd ss' M
  | .above k ps, _, h, ho, ss', hs => GS.mono h (fun x hx => hs x (ho x ⟨hx, by simp⟩)) (Nat.le_refl _)
  | .nought k ps, _, h, ho, ss', hs => GS.mono h (fun x hx => hs x (ho x ⟨hx, by simp⟩)) (Nat.le_refl _)
  | .goes m k ps, _, h, ho, ss', hs => ⟨h.1, GS.mono h.2 (fun x hx => hs x (ho x ⟨hx, by simp⟩)) (Nat.le_refl _)⟩
  | .neg s, hp, h, ho, ss', hs => s.gd_oc T hp h ho ss' hs
  | .conn a l, hp, h, ho, ss', hs => ⟨h.1, l.gd_oc T hp h.2 ho ss' hs⟩
theorem Sts.gd_oc {ss : List Str} {M : Nat} (T : Str → Prop) : ∀ (l : Sts), l.pl = true → l.Gd ss M → (∀ x, l.oc [] x → T x) → ∀ ss', (∀ x, T x → x ∈ ss') → l.Gd ss' M
  | .nil, _, _, _, _, _ => trivial
  | .cons s l, hp, h, ho, ss', hs => by
    rw [Sts.pl, Bool.and_eq_true] at hp
    exact ⟨s.gd_oc T hp.1 h.1 (fun x hx => ho x (.inl hx)) ss' hs, l.gd_oc T hp.2 h.2 (fun x hx => ho x (.inr hx)) ss' hs⟩
end
theorem St.gd_fr {ss : List Str} {M : Nat} {s : St} (hp : s.pl = true) (h : s.Gd ss M) : s.Gd (s.fr []) M :=
  s.gd_oc (fun x => x ∈ s.fr []) hp h (fun x hx => (s.mem_fr x []).mpr hx) _ fun x hx => hx
noncomputable def edgeK (c : Int) (names : List Str) (vs : List (Str × Int)) : Int := sumK (c / 12) names - (sumK (c / 12) names + lin vs (sumL 3 (c / 12) (srt names))) + c % 3 - 1
noncomputable def edgeE (c : Int) (names : List Str) (vs : List (Str × Int)) : St :=
  if c / 3 % 3 = 0 then .above (edgeK c names vs) (sumL 3 (c / 12) (srt names))
  else if c / 3 % 3 = 1 then .nought (edgeK c names vs) (sumL 3 (c / 12) (srt names))
  else .goes (1 + c / 9 % 40) (edgeK c names vs) (sumL 3 (c / 12) (srt names))
noncomputable def edgeSt (c : Int) (names : List Str) (vs : List (Str × Int)) : St := if c / 7 % 2 = 1 then .neg (edgeE c names vs) else edgeE c names vs
theorem edge_pl {c : Int} {names : List Str} {vs : List (Str × Int)} : (edgeSt c names vs).pl = true := by
  unfold edgeSt edgeE; split <;> split <;> (try split) <;> rfl
theorem edge_dp {c : Int} {names : List Str} {vs : List (Str × Int)} : (edgeSt c names vs).dp ≤ 1 := by
  unfold edgeSt edgeE; split <;> split <;> (try split) <;> simp [St.dp]
theorem edge_gd {ss names : List Str} {c : Int} {vs : List (Str × Int)} {M : Nat} (nd : names.Nodup) (hs : ∀ x ∈ names, x ∈ ss) (hM : 50 ≤ M) (hk : (edgeK c names vs).natAbs ≤ M) : (edgeSt c names vs).Gd ss M := by
  have g : GS ss M (edgeK c names vs) (sumL 3 (c / 12) (srt names)) := by
    refine ⟨Good.sum nd hs, fun p hp => ?_, hk⟩
    have := sumL_bd (wide := 3) (by decide) _ _ p hp
    omega
  have e : (edgeE c names vs).Gd ss M := by
    unfold edgeE; split
    · exact g
    · split
      · exact g
      · exact ⟨by omega, g⟩
  unfold edgeSt; split <;> exact e
end Mine
end

section
open PySem PySem.W PyProof.Rows PySem.Calls PyProof
set_option Elab.async false
set_option maxRecDepth 100000
namespace Mine
noncomputable def kf : Params → Frag := fun P => [
 (2, { cls := Value.none, data := Data.dict #[] }),
 (3, { cls := Value.type "dict", data := Data.dict #[{ hash := PyData.keyHash P (Str.ofString "__name__"), key := Value.str (Str.ofString "__name__") 165, val := Value.str (Str.ofString "law_uf010003_05") 349 }, { hash := PyData.keyHash P (Str.ofString "__doc__"), key := Value.str (Str.ofString "__doc__") 166, val := Value.none }, { hash := PyData.keyHash P (Str.ofString "__package__"), key := Value.str (Str.ofString "__package__") 167, val := Value.none }, { hash := PyData.keyHash P (Str.ofString "__loader__"), key := Value.str (Str.ofString "__loader__") 168, val := Value.builtin "__main__.__loader__#opaque" }, { hash := PyData.keyHash P (Str.ofString "__spec__"), key := Value.str (Str.ofString "__spec__") 169, val := Value.none }, { hash := PyData.keyHash P (Str.ofString "__annotations__"), key := Value.str (Str.ofString "__annotations__") 170, val := Value.ref 6 }, { hash := PyData.keyHash P (Str.ofString "__builtins__"), key := Value.str (Str.ofString "__builtins__") 171, val := Value.ref 4 }, { hash := PyData.keyHash P (Str.ofString "__file__"), key := Value.str (Str.ofString "__file__") 173, val := Value.str (Str.ofString "/claim/cut.py") 172 }, { hash := PyData.keyHash P (Str.ofString "__cached__"), key := Value.str (Str.ofString "__cached__") 174, val := Value.none }, { hash := PyData.keyHash P (Str.ofString "SomeError"), key := Value.str (Str.ofString "SomeError") 206, val := Value.ref 24 }, { hash := PyData.keyHash P (Str.ofString "NoValue"), key := Value.str (Str.ofString "NoValue") 222, val := Value.ref 37 }, { hash := PyData.keyHash P (Str.ofString "NotPlain"), key := Value.str (Str.ofString "NotPlain") 238, val := Value.ref 49 }, { hash := PyData.keyHash P (Str.ofString "NoNote"), key := Value.str (Str.ofString "NoNote") 254, val := Value.ref 61 }, { hash := PyData.keyHash P (Str.ofString "made"), key := Value.str (Str.ofString "made") 262, val := Value.ref 68 }, { hash := PyData.keyHash P (Str.ofString "added"), key := Value.str (Str.ofString "added") 270, val := Value.ref 75 }, { hash := PyData.keyHash P (Str.ofString "times"), key := Value.str (Str.ofString "times") 276, val := Value.ref 80 }, { hash := PyData.keyHash P (Str.ofString "share"), key := Value.str (Str.ofString "share") 286, val := Value.ref 87 }, { hash := PyData.keyHash P (Str.ofString "without"), key := Value.str (Str.ofString "without") 292, val := Value.ref 92 }, { hash := PyData.keyHash P (Str.ofString "put_in"), key := Value.str (Str.ofString "put_in") 301, val := Value.ref 99 }, { hash := PyData.keyHash P (Str.ofString "ATOMS"), key := Value.str (Str.ofString "ATOMS") 307, val := Value.ref 100 }, { hash := PyData.keyHash P (Str.ofString "BINDING"), key := Value.str (Str.ofString "BINDING") 310, val := Value.ref 101 }, { hash := PyData.keyHash P (Str.ofString "inner"), key := Value.str (Str.ofString "inner") 318, val := Value.ref 108 }, { hash := PyData.keyHash P (Str.ofString "is_plain"), key := Value.str (Str.ofString "is_plain") 326, val := Value.ref 115 }, { hash := PyData.keyHash P (Str.ofString "need_plain"), key := Value.str (Str.ofString "need_plain") 333, val := Value.ref 122 }, { hash := PyData.keyHash P (Str.ofString "placed"), key := Value.str (Str.ofString "placed") 339, val := Value.ref 127 }, { hash := PyData.keyHash P (Str.ofString "put"), key := Value.str (Str.ofString "put") 348, val := Value.ref 134 }, { hash := PyData.keyHash P (Str.ofString "_law_cell_at"), key := Value.str (Str.ofString "_law_cell_at") 358, val := Value.ref 141 }, { hash := PyData.keyHash P (Str.ofString "_law_whole"), key := Value.str (Str.ofString "_law_whole") 365, val := Value.ref 148 }, { hash := PyData.keyHash P (Str.ofString "_law_names_by"), key := Value.str (Str.ofString "_law_names_by") 371, val := Value.ref 153 }, { hash := PyData.keyHash P (Str.ofString "_law_sum_by"), key := Value.str (Str.ofString "_law_sum_by") 384, val := Value.ref 160 }, { hash := PyData.keyHash P (Str.ofString "_law_end_by"), key := Value.str (Str.ofString "_law_end_by") 395, val := Value.ref 167 }, { hash := PyData.keyHash P (Str.ofString "_law_plain_by"), key := Value.str (Str.ofString "_law_plain_by") 413, val := Value.ref 174 }, { hash := PyData.keyHash P (Str.ofString "_law_word_of"), key := Value.str (Str.ofString "_law_word_of") 421, val := Value.ref 181 }, { hash := PyData.keyHash P (Str.ofString "_law_alike"), key := Value.str (Str.ofString "_law_alike") 430, val := Value.ref 188 }, { hash := PyData.keyHash P (Str.ofString "_law_bound_by"), key := Value.str (Str.ofString "_law_bound_by") 441, val := Value.ref 195 }, { hash := PyData.keyHash P (Str.ofString "_law_sum_put"), key := Value.str (Str.ofString "_law_sum_put") 447, val := Value.ref 200 }, { hash := PyData.keyHash P (Str.ofString "_law_put"), key := Value.str (Str.ofString "_law_put") 453, val := Value.ref 205 }, { hash := PyData.keyHash P (Str.ofString "_law_refused"), key := Value.str (Str.ofString "_law_refused") 463, val := Value.ref 212 }, { hash := PyData.keyHash P (Str.ofString "law"), key := Value.str (Str.ofString "law") 469, val := Value.ref 217 }] 39 }),
 (22, { cls := Value.type "tuple", data := Data.seq #[] }),
 (23, { cls := Value.type "dict", data := Data.dict #[{ hash := PyData.keyHash P (Str.ofString "__module__"), key := Value.str (Str.ofString "__module__") 196, val := Value.str (Str.ofString "somenumber.errors") 187 }, { hash := PyData.keyHash P (Str.ofString "__firstlineno__"), key := Value.str (Str.ofString "__firstlineno__") 200, val := Value.int 2 199 }, { hash := PyData.keyHash P (Str.ofString "__static_attributes__"), key := Value.str (Str.ofString "__static_attributes__") 201, val := Value.ref 22 }, { hash := PyData.keyHash P (Str.ofString "__weakref__"), key := Value.str (Str.ofString "__weakref__") 203, val := Value.ref 25 }, { hash := PyData.keyHash P (Str.ofString "__doc__"), key := Value.str (Str.ofString "__doc__") 204, val := Value.none }] 3 }),
 (24, { cls := Value.type "type", data := Data.cls { name := Str.ofString "SomeError", bases := [Value.type "ValueError"], mro := [Value.ref 24, Value.type "ValueError", Value.type "Exception", Value.type "BaseException", Value.type "object"], ns := 23, qualname := Str.ofString "SomeError", subclasses := [Value.ref 37, Value.ref 49, Value.ref 61] }, slots := #[some (Value.ref 15), none, some (Value.str (Str.ofString "SomeError") 189), some (Value.str (Str.ofString "SomeError") 197), some (Value.builtin "ValueError.__new__"), some (Value.bool true)] }),
 (25, { cls := Value.type "getset_descriptor", data := Data.fields #[Value.str (Str.ofString "__weakref__") 202, Value.ref 24, Value.builtin "ExceptionGroup.__weakref__", Value.none] }),
 (35, { cls := Value.type "tuple", data := Data.seq #[] }),
 (36, { cls := Value.type "dict", data := Data.dict #[{ hash := PyData.keyHash P (Str.ofString "__module__"), key := Value.str (Str.ofString "__module__") 214, val := Value.str (Str.ofString "somenumber.errors") 187 }, { hash := PyData.keyHash P (Str.ofString "__firstlineno__"), key := Value.str (Str.ofString "__firstlineno__") 218, val := Value.int 4 217 }, { hash := PyData.keyHash P (Str.ofString "__static_attributes__"), key := Value.str (Str.ofString "__static_attributes__") 219, val := Value.ref 35 }, { hash := PyData.keyHash P (Str.ofString "__doc__"), key := Value.str (Str.ofString "__doc__") 220, val := Value.none }] 2 }),
 (37, { cls := Value.type "type", data := Data.cls { name := Str.ofString "NoValue", bases := [Value.ref 24], mro := [Value.ref 37, Value.ref 24, Value.type "ValueError", Value.type "Exception", Value.type "BaseException", Value.type "object"], ns := 36, qualname := Str.ofString "NoValue" }, slots := #[some (Value.ref 28), none, some (Value.str (Str.ofString "NoValue") 207), some (Value.str (Str.ofString "NoValue") 215), some (Value.builtin "ValueError.__new__"), some (Value.bool true)] }),
 (47, { cls := Value.type "tuple", data := Data.seq #[] }),
 (48, { cls := Value.type "dict", data := Data.dict #[{ hash := PyData.keyHash P (Str.ofString "__module__"), key := Value.str (Str.ofString "__module__") 230, val := Value.str (Str.ofString "somenumber.errors") 187 }, { hash := PyData.keyHash P (Str.ofString "__firstlineno__"), key := Value.str (Str.ofString "__firstlineno__") 234, val := Value.int 6 233 }, { hash := PyData.keyHash P (Str.ofString "__static_attributes__"), key := Value.str (Str.ofString "__static_attributes__") 235, val := Value.ref 47 }, { hash := PyData.keyHash P (Str.ofString "__doc__"), key := Value.str (Str.ofString "__doc__") 236, val := Value.none }] 2 }),
 (49, { cls := Value.type "type", data := Data.cls { name := Str.ofString "NotPlain", bases := [Value.ref 24], mro := [Value.ref 49, Value.ref 24, Value.type "ValueError", Value.type "Exception", Value.type "BaseException", Value.type "object"], ns := 48, qualname := Str.ofString "NotPlain" }, slots := #[some (Value.ref 40), none, some (Value.str (Str.ofString "NotPlain") 223), some (Value.str (Str.ofString "NotPlain") 231), some (Value.builtin "ValueError.__new__"), some (Value.bool true)] }),
 (59, { cls := Value.type "tuple", data := Data.seq #[] }),
 (60, { cls := Value.type "dict", data := Data.dict #[{ hash := PyData.keyHash P (Str.ofString "__module__"), key := Value.str (Str.ofString "__module__") 246, val := Value.str (Str.ofString "somenumber.errors") 187 }, { hash := PyData.keyHash P (Str.ofString "__firstlineno__"), key := Value.str (Str.ofString "__firstlineno__") 250, val := Value.int 8 249 }, { hash := PyData.keyHash P (Str.ofString "__static_attributes__"), key := Value.str (Str.ofString "__static_attributes__") 251, val := Value.ref 59 }, { hash := PyData.keyHash P (Str.ofString "__doc__"), key := Value.str (Str.ofString "__doc__") 252, val := Value.none }] 2 }),
 (61, { cls := Value.type "type", data := Data.cls { name := Str.ofString "NoNote", bases := [Value.ref 24], mro := [Value.ref 61, Value.ref 24, Value.type "ValueError", Value.type "Exception", Value.type "BaseException", Value.type "object"], ns := 60, qualname := Str.ofString "NoNote" }, slots := #[some (Value.ref 52), none, some (Value.str (Str.ofString "NoNote") 239), some (Value.str (Str.ofString "NoNote") 247), some (Value.builtin "ValueError.__new__"), some (Value.bool true)] }),
 (100, { cls := Value.type "tuple", data := Data.seq #[Value.str (Str.ofString "above") 304, Value.str (Str.ofString "nought") 305, Value.str (Str.ofString "goes") 306] }),
 (101, { cls := Value.type "tuple", data := Data.seq #[Value.str (Str.ofString "some") 308, Value.str (Str.ofString "all") 309] })]
noncomputable def kas : List Addr := [2, 3, 22, 23, 24, 25, 35, 36, 37, 47, 48, 49, 59, 60, 61, 100, 101]
theorem c_ATOMS {B : Bs} (X : (kf B.w.params).In B.hB) : ∃ v, B.mg "ATOMS" = some v ∧ Im B.hB v (.tup ((["above", "nought", "goes"] : List Str).map .str)) :=
  ⟨.ref 100, mgOf X B.g (by kernel_rfl), Im.tup (X 100 ({ cls := Value.type "tuple", data := Data.seq #[Value.str (Str.ofString "above") 304, Value.str (Str.ofString "nought") 305, Value.str (Str.ofString "goes") 306] } : Obj) (by kernel_rfl)) rfl rfl (.cons (.str _ _) (.cons (.str _ _) (.cons (.str _ _) (.nil))))⟩
theorem c_BINDING {B : Bs} (X : (kf B.w.params).In B.hB) : ∃ v, B.mg "BINDING" = some v ∧ Im B.hB v (.tup ((["some", "all"] : List Str).map .str)) :=
  ⟨.ref 101, mgOf X B.g (by kernel_rfl), Im.tup (X 101 ({ cls := Value.type "tuple", data := Data.seq #[Value.str (Str.ofString "some") 308, Value.str (Str.ofString "all") 309] } : Obj) (by kernel_rfl)) rfl rfl (.cons (.str _ _) (.cons (.str _ _) (.nil)))⟩
theorem xc (P : Params) : XC (kf P) 24 ∧ XC (kf P) 37 ∧ XC (kf P) 49 ∧ XC (kf P) 61 :=
  ⟨⟨by kernel_rfl, by kernel_rfl, by kernel_rfl, by kernel_rfl, by kernel_rfl, by kernel_rfl, by kernel_rfl, by kernel_rfl, by kernel_rfl⟩,
   ⟨by kernel_rfl, by kernel_rfl, by kernel_rfl, by kernel_rfl, by kernel_rfl, by kernel_rfl, by kernel_rfl, by kernel_rfl, by kernel_rfl⟩,
   ⟨by kernel_rfl, by kernel_rfl, by kernel_rfl, by kernel_rfl, by kernel_rfl, by kernel_rfl, by kernel_rfl, by kernel_rfl, by kernel_rfl⟩,
   ⟨by kernel_rfl, by kernel_rfl, by kernel_rfl, by kernel_rfl, by kernel_rfl, by kernel_rfl, by kernel_rfl, by kernel_rfl, by kernel_rfl⟩⟩
theorem ns24 (P : Params) : nsIn (kf P) mainGlobals "SomeError" = some (some (.ref 24)) ∧ nsIn (kf P) mainGlobals "NoValue" = some (some (.ref 37)) ∧ nsIn (kf P) mainGlobals "NotPlain" = some (some (.ref 49)) ∧ nsIn (kf P) mainGlobals "NoNote" = some (some (.ref 61)) :=
  ⟨by kernel_rfl, by kernel_rfl, by kernel_rfl, by kernel_rfl⟩
theorem xn (P : Params) : XNot (kf P) 37 49 = true ∧ XNot (kf P) 37 61 = true ∧ mroIn (kf P) 37 (.ref 24) = some true ∧ XNot (kf P) 49 37 = true ∧ XNot (kf P) 49 61 = true ∧ mroIn (kf P) 49 (.ref 24) = some true :=
  ⟨by kernel_rfl, by kernel_rfl, by kernel_rfl, by kernel_rfl, by kernel_rfl, by kernel_rfl⟩
end Mine
end

section
open PySem PySem.W PyProof.Rows PySem.Calls PyProof
set_option Elab.async false
set_option maxHeartbeats 800000
set_option maxRecDepth 100000
set_option linter.unusedVariables false
namespace Mine
noncomputable abbrev pw := PySem.Challenge.pw_uf010003_05
structure Cx (B : Bs) : Prop where
  quiet : B.quiet = true
  kin : (kf B.w.params).In B.hB
  f_made : FnAt B "made" ["number", "pairs"] (bodyOf pw 6) (scopeOf pw 6)
  f_added : FnAt B "added" ["one", "other"] (bodyOf pw 7) (scopeOf pw 7)
  f_times : FnAt B "times" ["number", "one"] (bodyOf pw 8) (scopeOf pw 8)
  f_share : FnAt B "share" ["one", "name"] (bodyOf pw 9) (scopeOf pw 9)
  f_without : FnAt B "without" ["one", "name"] (bodyOf pw 10) (scopeOf pw 10)
  f_put_in : FnAt B "put_in" ["one", "name", "other"] (bodyOf pw 11) (scopeOf pw 11)
  f_inner : FnAt B "inner" ["statement"] (bodyOf pw 15) (scopeOf pw 15)
  f_is_plain : FnAt B "is_plain" ["statement"] (bodyOf pw 16) (scopeOf pw 16)
  f_need_plain : FnAt B "need_plain" ["statement"] (bodyOf pw 17) (scopeOf pw 17)
  f_placed : FnAt B "placed" ["statement", "name", "other"] (bodyOf pw 18) (scopeOf pw 18)
  f_put : FnAt B "put" ["statement", "name", "other"] (bodyOf pw 19) (scopeOf pw 19)
  f_cell_at : FnAt B "_law_cell_at" ["_law_script", "_law_k"] (bodyOf pw 21) (scopeOf pw 21)
  f_whole : FnAt B "_law_whole" ["_law_got"] (bodyOf pw 22) (scopeOf pw 22)
  f_names_by : FnAt B "_law_names_by" ["_law_cell"] (bodyOf pw 23) (scopeOf pw 23)
  f_sum_by : FnAt B "_law_sum_by" ["_law_cell", "_law_names", "_law_wide"] (bodyOf pw 24) (scopeOf pw 24)
  f_end_by : FnAt B "_law_end_by" ["_law_cell", "_law_names", "_law_wide", "_law_most"] (bodyOf pw 25) (scopeOf pw 25)
  f_plain_by : FnAt B "_law_plain_by" ["_law_script", "_law_first", "_law_count", "_law_names", "_law_wide", "_law_most"] (bodyOf pw 26) (scopeOf pw 26)
  f_word_of : FnAt B "_law_word_of" ["_law_e"] (bodyOf pw 27) (scopeOf pw 27)
  f_alike : FnAt B "_law_alike" ["_law_got", "_law_due"] (bodyOf pw 28) (scopeOf pw 28)
  f_bound_by : FnAt B "_law_bound_by" ["_law_cell", "_law_statement", "_law_names"] (bodyOf pw 29) (scopeOf pw 29)
  f_sum_put : FnAt B "_law_sum_put" ["_law_one", "_law_name", "_law_other"] (bodyOf pw 30) (scopeOf pw 30)
  f_lput : FnAt B "_law_put" ["_law_statement", "_law_name", "_law_other"] (bodyOf pw 31) (scopeOf pw 31)
  f_refused : FnAt B "_law_refused" ["_law_statement", "_law_name", "_law_other"] (bodyOf pw 32) (scopeOf pw 32)
  f_law : FnAt B "law" ["_law_script"] (bodyOf pw 33) (scopeOf pw 33)
  o_SomeError : ∃ C, Own B "SomeError" C
  o_NoValue : ∃ C, Own B "NoValue" C
  o_NotPlain : ∃ C, Own B "NotPlain" C
  o_NoNote : ∃ C, Own B "NoNote" C
  b_ValueError : B.mg "ValueError" = none
  b_bool : B.mg "bool" = none
  b_int : B.mg "int" = none
  b_isinstance : B.mg "isinstance" = none
  b_len : B.mg "len" = none
  b_list : B.mg "list" = none
  b_range : B.mg "range" = none
  b_set : B.mg "set" = none
  b_sorted : B.mg "sorted" = none
  b_str : B.mg "str" = none
  b_sum : B.mg "sum" = none
  b_tuple : B.mg "tuple" = none
noncomputable def F_made : Fi := ⟨scopeOf pw 6, [("number", .loc), ("pairs", .loc), ("shares", .cel), ("name", .loc), ("part", .loc)], 5, by decide +kernel⟩
noncomputable def F_added : Fi := ⟨scopeOf pw 7, [("one", .loc), ("other", .loc)], 2, by decide +kernel⟩
noncomputable def F_times : Fi := ⟨scopeOf pw 8, [("number", .cel), ("one", .loc)], 2, by decide +kernel⟩
noncomputable def F_share : Fi := ⟨scopeOf pw 9, [("one", .loc), ("name", .loc), ("other", .loc), ("part", .loc)], 4, by decide +kernel⟩
noncomputable def F_without : Fi := ⟨scopeOf pw 10, [("one", .loc), ("name", .cel)], 2, by decide +kernel⟩
noncomputable def F_put_in : Fi := ⟨scopeOf pw 11, [("one", .loc), ("name", .loc), ("other", .loc)], 3, by decide +kernel⟩
noncomputable def F_inner : Fi := ⟨scopeOf pw 15, [("statement", .loc), ("kind", .loc)], 2, by decide +kernel⟩
noncomputable def F_is_plain : Fi := ⟨scopeOf pw 16, [("statement", .loc), ("part", .loc)], 2, by decide +kernel⟩
noncomputable def F_need_plain : Fi := ⟨scopeOf pw 17, [("statement", .loc)], 1, by decide +kernel⟩
noncomputable def F_placed : Fi := ⟨scopeOf pw 18, [("statement", .loc), ("name", .cel), ("other", .cel)], 3, by decide +kernel⟩
noncomputable def F_put : Fi := ⟨scopeOf pw 19, [("statement", .loc), ("name", .loc), ("other", .loc)], 3, by decide +kernel⟩
noncomputable def F_cell_at : Fi := ⟨scopeOf pw 21, [("_law_script", .loc), ("_law_k", .loc)], 2, by decide +kernel⟩
noncomputable def F_whole : Fi := ⟨scopeOf pw 22, [("_law_got", .loc)], 1, by decide +kernel⟩
noncomputable def F_names_by : Fi := ⟨scopeOf pw 23, [("_law_cell", .cel), ("_law_letters", .cel), ("_law_size", .loc), ("_law_word", .cel), ("_law_number", .loc), ("_law_k", .loc), ("_law_usual", .cel), ("_law_spot", .cel)], 8, by decide +kernel⟩
noncomputable def F_sum_by : Fi := ⟨scopeOf pw 24, [("_law_cell", .loc), ("_law_names", .loc), ("_law_wide", .loc), ("_law_number", .loc), ("_law_parts", .loc), ("_law_name", .loc), ("_law_by", .loc)], 7, by decide +kernel⟩
noncomputable def F_end_by : Fi := ⟨scopeOf pw 25, [("_law_cell", .loc), ("_law_names", .loc), ("_law_wide", .loc), ("_law_most", .loc), ("_law_one", .loc)], 5, by decide +kernel⟩
noncomputable def F_plain_by : Fi := ⟨scopeOf pw 26, [("_law_script", .loc), ("_law_first", .loc), ("_law_count", .loc), ("_law_names", .loc), ("_law_wide", .loc), ("_law_most", .loc), ("_law_begin", .loc), ("_law_made_of", .loc), ("_law_k", .loc), ("_law_cell", .loc), ("_law_end", .loc), ("_law_way", .loc)], 12, by decide +kernel⟩
noncomputable def F_word_of : Fi := ⟨scopeOf pw 27, [("_law_e", .loc), ("_law_words", .loc)], 2, by decide +kernel⟩
noncomputable def F_alike : Fi := ⟨scopeOf pw 28, [("_law_got", .loc), ("_law_due", .loc), ("_law_k", .loc)], 3, by decide +kernel⟩
noncomputable def F_bound_by : Fi := ⟨scopeOf pw 29, [("_law_cell", .loc), ("_law_statement", .loc), ("_law_names", .loc), ("_law_inner", .loc), ("_law_way", .loc)], 5, by decide +kernel⟩
noncomputable def F_sum_put : Fi := ⟨scopeOf pw 30, [("_law_one", .loc), ("_law_name", .cel), ("_law_other", .loc), ("_law_by", .loc), ("_law_names", .loc), ("_law_parts", .loc), ("_law_each", .cel), ("_law_own", .loc)], 8, by decide +kernel⟩
noncomputable def F_lput : Fi := ⟨scopeOf pw 31, [("_law_statement", .loc), ("_law_name", .cel), ("_law_other", .cel), ("_law_kind", .loc)], 4, by decide +kernel⟩
noncomputable def F_refused : Fi := ⟨scopeOf pw 32, [("_law_statement", .loc), ("_law_name", .loc), ("_law_other", .loc), ("_law_e", .loc)], 4, by decide +kernel⟩
noncomputable def F_law : Fi := ⟨scopeOf pw 33, [("_law_script", .cel), ("_law_names", .loc), ("_law_count", .loc), ("_law_most", .loc), ("_law_statement", .loc), ("_law_name", .cel), ("_law_some_of", .loc), ("_law_other", .loc)], 8, by decide +kernel⟩
noncomputable abbrev innerBody : List Stmt := bodyOf pw 15
noncomputable abbrev plainBody : List Stmt := bodyOf pw 26
noncomputable def forBody (l : List Stmt) (i : Nat) : List Stmt :=
  match l[i]? with
  | some (.For _ _ b _ _) => b
  | _ => []
noncomputable abbrev stepBody : List Stmt := (forBody plainBody 4).drop 3
theorem gB {B : Bs} (C : Cx B) : ∃ v, B.mg "BINDING" = some v ∧ Im B.hB v (.tup ((["some", "all"] : List Str).map .str)) := c_BINDING C.kin
theorem gA {B : Bs} (C : Cx B) : ∃ v, B.mg "ATOMS" = some v ∧ Im B.hB v (.tup ((["above", "nought", "goes"] : List Str).map .str)) := c_ATOMS C.kin

end Mine
end

section
open PySem PySem.W PyProof.Rows PySem.Calls PyProof
set_option Elab.async false
set_option maxHeartbeats 800000
set_option maxRecDepth 100000
set_option linter.unusedVariables false
namespace Mine
variable {B : Bs}

theorem cell_at_spec (C : Cx B) (n : Nat) {is : List Int} {k : Int} (h0 : 0 ≤ k) (hk : k < 2 ^ 62) (hl : is.length < 64) :
    Spec B "_law_cell_at" NoX (n + 1) [.ct (.lst (is.map .int)), .im (.int k)] fun q => q = .im (.int (cellAt is k)) := by
  refine Spec.of_body (F := F_cell_at) C.f_cell_at rfl (by decide) rfl ?_
  have hq := C.quiet
  refine SWs.cons (SW.ife (TW.cmp (EW.name 1 rfl rfl (EW.bcall rfl C.b_len bb_len trivial (LW.cons (EW.name 0 rfl rfl (LW.nil ⟨_, BuiS.lenL ?_, ⟨_, CmpS.ltI _ _, ?_⟩⟩)))))))
  · rw [List.length_map]; omega
  split
  · rename_i h
    rw [List.length_map, decide_eq_true_eq] at h
    refine SWs.cons (SW.ret (EW.sub (EW.name 0 rfl rfl (EW.name 1 rfl rfl ⟨_, SubS.list (d := .int (cellAt is k)) h0 (by omega) ?_, rfl⟩))))
    rw [List.getElem?_map, List.getElem?_eq_getElem (by omega)]
    unfold cellAt
    rw [if_pos h, List.getD_eq_getElem?_getD, List.getElem?_eq_getElem (by omega)]; rfl
  · rename_i h
    rw [List.length_map, decide_eq_true_eq] at h
    refine SWs.nil (SWs.cons (SW.ret (EW.cint ?_)))
    show _ = _
    unfold cellAt
    rw [if_neg h]

theorem whole_spec (C : Cx B) (n : Nat) (i : Int) : Spec B "_law_whole" NoX (n + 1) [.im (.int i)] fun q => q = .im (.bool true) := by
  refine Spec.of_body (F := F_whole) C.f_whole rfl (by decide) rfl ?_
  have hq := C.quiet
  exact SWs.cons (SW.ret (EW.and2 (EW.isi rfl C.b_isinstance rfl C.b_int bb_int (EW.name 0 rfl rfl ⟨_, (IsiS.int_ i).1, ⟨_, TruS.bool _, ifT (EW.un (EW.isi rfl C.b_isinstance rfl C.b_bool bb_bool (EW.name 0 rfl rfl ⟨_, (IsiS.int_ i).2.1, ⟨_, UnS.not (TruS.bool _), rfl⟩⟩)))⟩⟩))))

theorem share_spec (C : Cx B) (n : Nat) {k : Int} {ps : List (Str × Int)} {name : Str} :
    Spec B "share" NoX (n + 1) [.im (.tup [.int k, .tup (ps.map pD)]), .im (.str name)] fun q => q = .im (.int ((iAt ps name).getD 0)) := by
  refine Spec.of_body (F := F_share) C.f_share rfl (by decide) rfl ?_
  have hq := C.quiet
  refine SWs.cons (SW.for_ (EW.sub (EW.name 0 rfl rfl (EW.cint ⟨_, SubS.tup (j := 1) (by decide) (by decide) rfl rfl, ⟨_, IterS.tup,
    fun rest ρ' => ∃ r, rest = r.map pD ∧ iAt ps name = iAt r name ∧ ∃ x y, ρ' = [some (.im (.tup [.int k, .tup (ps.map pD)])), some (.im (.str name)), x, y], ?_, ?_, ?_⟩⟩))))
  · exact ⟨ps, rfl, rfl, none, none, rfl⟩
  · rintro d rest ρ' ⟨r, e1, e2, x, y, rfl⟩
    cases r with
    | nil => cases e1
    | cons p r =>
      cases e1
      refine AsW.two 2 3 rfl rfl (by decide) (by decide) (by decide) (by decide) ?_
      refine SWs.cons (SW.ife (TW.cmp (EW.name 2 rfl rfl (EW.name 1 rfl rfl ⟨_, CmpS.eqS _ _, ?_⟩))))
      split
      · rename_i h
        refine SWs.cons (SW.ret (EW.name 3 rfl rfl ?_))
        show _ = _
        rw [e2, iAt_cons, if_pos (by simpa using h)]; rfl
      · rename_i h
        refine SWs.nil (SWs.nil ?_)
        refine ⟨r, rfl, ?_, _, _, rfl⟩
        rw [e2, iAt_cons, if_neg (by simpa using h)]
  · rintro ρ' ⟨r, e1, e2, x, y, rfl⟩
    have : r = [] := by cases r with | nil => rfl | cons p r => cases e1
    subst this
    refine SWs.nil (SWs.cons (SW.ret (EW.cint ?_)))
    show _ = _
    rw [e2]; rfl


theorem tally_length (ps : List (Str × Int)) : (tally ps).length ≤ ps.length := by
  induction ps using snoc_ind with
  | h0 => exact Nat.le_refl _
  | h1 l a ih =>
    rw [tally_snoc, put1]
    have := congrArg List.length (iSto_keys (tally l) a.1 ((iAt (tally l) a.1).getD 0 + a.2))
    rw [List.length_map] at this
    rw [this, List.length_append]
    split <;> simp <;> omega
noncomputable def madeF (ps : List (Str × Int)) : D → Option D
  | .str k => if sumOf k ps ≠ 0 then some (pD (k, sumOf k ps)) else none
  | _ => none
theorem madeF_list (ps : List (Str × Int)) (l : List Str) : (l.map D.str).filterMap (madeF ps) = ((l.filter fun k => decide (sumOf k ps ≠ 0)).map fun k => (k, sumOf k ps)).map pD := by
  induction l with
  | nil => rfl
  | cons k l ih =>
    rw [List.map_cons]
    by_cases h : sumOf k ps = 0
    · rw [List.filterMap_cons_none (by simp [madeF, h]), ih, List.filter_cons_of_neg (by simp [h])]
    · rw [List.filterMap_cons_some (show madeF ps (.str k) = some (pD (k, sumOf k ps)) by simp [madeF, h]), ih, List.filter_cons_of_pos (by simp [h])]; rfl
theorem made_spec (C : Cx B) (n : Nat) {k : Int} {ps : List (Str × Int)} (hl : ps.length < 64) :
    Spec B "made" NoX (n + 1) [.im (.int k), .ct (.lst (ps.map pD))] fun q => q = .im (.tup [.int k, .tup ((madeL ps).map pD)]) := by
  refine Spec.of_body (F := F_made) C.f_made rfl (by decide) rfl ?_
  have hq := C.quiet
  refine SWs.cons (SW.assign 2 rfl (by decide) (by decide) (EW.dict0 ⟨_, rfl, ?_⟩))
  refine SWs.cons (SW.for_ (EW.name 1 rfl rfl ⟨_, IterS.list (fun i q => by cases q),
    fun rest ρ' => ∃ done r, ps = done ++ r ∧ rest = r.map pD ∧ ∃ x y, ρ' = [some (.im (.int k)), some (.fz (.lst (ps.map pD))), some (.own (.dct (iD (tally done)))), x, y], ?_, ?_, ?_⟩))
  · exact ⟨[], ps, rfl, rfl, none, none, rfl⟩
  · rintro d rest ρ' ⟨done, r, e0, e1, x, y, rfl⟩
    cases r with
    | nil => cases e1
    | cons p r =>
      cases e1
      refine AsW.two 3 4 rfl rfl (by decide) (by decide) (by decide) (by decide) ?_
      have e : (dAt (iD (tally done)) p.1).getD (.int 0) = .int ((iAt (tally done) p.1).getD 0) := by
        rw [dAt_iD]; cases iAt (tally done) p.1 <;> rfl
      refine SWs.cons (SW.dset 2 rfl rfl (EW.bin (EW.get2 (EW.name 2 rfl rfl ⟨_, _, rfl, EW.name 3 rfl rfl ⟨_, rfl, EW.cint ⟨_, rfl, EW.name 4 rfl rfl ⟨.im (.int ((iAt (tally done) p.1).getD 0 + p.2)), ?_, ⟨_, rfl, EW.name 3 rfl rfl ⟨_, rfl, ?_, ?_⟩⟩⟩⟩⟩⟩))))
      · rw [e]; exact BinS.add _ _
      · have h1 := tally_length done
        have h2 : done.length ≤ ps.length := by rw [e0]; simp
        have h3 : (iD (tally done)).length = (tally done).length := by simp [iD]
        rw [h3]; exact Nat.le_trans (by omega) (show 64 ≤ sizeLine by decide)
      · refine SWs.nil ⟨done ++ [p], r, by rw [e0]; simp, rfl, some (.im (.str p.1)), some (.im (.int p.2)), ?_⟩
        rw [dSto_iD, tally_snoc]; rfl
  · rintro ρ' ⟨done, r, e0, e1, x, y, rfl⟩
    have : r = [] := by cases r with | nil => rfl | cons p r => cases e1
    subst this
    rw [List.append_nil] at e0; subst e0
    have hlen := tally_length ps
    have hml : (List.filterMap (madeF ps) (List.map D.str (srt ((tally ps).map (·.1))))).length ≤ 64 := by
      refine Nat.le_trans (List.length_filterMap_le _ _) ?_
      rw [List.length_map, (srt_perm _).length_eq, List.length_map]; omega
    refine SWs.nil (SWs.cons (SW.ret (EW.tuple (LW.cons (EW.name 0 rfl rfl (LW.cons (EW.bcall rfl C.b_tuple bb_tuple trivial (LW.cons ?_))))))))
    refine EW.compV [("name", .loc), ("shares", .cel)] 1 [2] (by decide +kernel) (by decide +kernel) ?_
    refine EW.bcall rfl C.b_sorted bb_sorted trivial (LW.cons (EW.bcall rfl C.b_list bb_list trivial (LW.cons (EW.name 2 rfl rfl (LW.nil ⟨_, BuiS.listD ?_, LW.nil ?_⟩)))))
    · simp [iD]; exact Nat.le_trans (by omega) (show 64 ≤ sizeLine by decide)
    refine ⟨.ct .fr (.lst ((srt ((tally ps).map (·.1))).map .str)), ?_, ⟨_, IterS.list (fun i q => by cases q), madeF ps, ?_, ?_, LW.nil ⟨_, BuiS.tupleL ?_, LW.nil ⟨_, .cons (.cons .nil), ?_, ?_⟩⟩⟩⟩
    · rw [iD_keys]; exact BuiS.sorted (by simp; omega)
    · intro d hd
      obtain ⟨nm, hnm, rfl⟩ := List.mem_map.mp hd
      have hmem := (tally_mem ps nm).mp ((srt_perm _).mem_iff.mp hnm)
      have hat : dAt (iD (tally ps)) nm = some (.int (sumOf nm ps)) := by rw [dAt_iD, tally_at, if_pos hmem]; rfl
      refine AsW.name 0 rfl (by decide) (by decide) ⟨rfl, IfsW.one (TW.cmp (EW.sub (EW.name 1 rfl rfl (EW.name 0 rfl rfl ⟨_, SubS.dct hat, EW.cint ⟨_, CmpS.neI _ _, ?_⟩⟩))))⟩
      split
      · rename_i h
        refine EW.tuple (LW.cons (EW.name 0 rfl rfl (LW.cons (EW.sub (EW.name 1 rfl rfl (EW.name 0 rfl rfl ⟨_, SubS.dct hat, LW.nil ⟨_, .cons (.cons .nil), (show 2 ≤ sizeLine by decide), _, ?_, rfl⟩⟩))))))
        simp only [bne_iff_ne, ne_eq] at h
        simp [madeF, h, pD]
      · rename_i h
        simp only [bne_iff_ne, ne_eq, Decidable.not_not] at h
        simp [madeF, h]
    · exact Nat.le_trans hml (by decide)
    · exact Nat.le_trans hml (by decide)
    · exact (by decide : 2 ≤ sizeLine)
    · show _ = _
      rw [madeF_list]; rfl


theorem alike_none (C : Cx B) (n : Nat) : Spec B "_law_alike" NoX (n + 1) [.im .none, .im .none] fun q => q = .im (.bool true) := by
  refine Spec.of_body (F := F_alike) C.f_alike rfl (by decide) rfl ?_
  have hq := C.quiet
  refine SWs.cons (SW.ife (TW.cmp (EW.name 1 rfl rfl (EW.cnone ⟨_, CmpS.isNone _, ifT ?_⟩))))
  exact SWs.cons (SW.ret (EW.cmp (EW.name 0 rfl rfl (EW.cnone ⟨_, CmpS.isNone _, rfl⟩))))
theorem alike_bool (C : Cx B) (n : Nat) : Spec B "_law_alike" NoX (n + 1) [.im (.bool true), .im (.bool true)] fun q => q = .im (.bool true) := by
  refine Spec.of_body (F := F_alike) C.f_alike rfl (by decide) rfl ?_
  have hq := C.quiet
  refine SWs.cons (SW.ife (TW.cmp (EW.name 1 rfl rfl (EW.cnone ⟨_, CmpS.isNone _, ifF (SWs.nil ?_)⟩))))
  refine SWs.cons (SW.ife (TW.cmp (EW.name 1 rfl rfl (EW.cbool ⟨_, CmpS.isTrue _, ifT ?_⟩))))
  exact SWs.cons (SW.ret (EW.cmp (EW.name 0 rfl rfl (EW.cbool ⟨_, CmpS.isTrue _, rfl⟩))))
theorem alike_str (C : Cx B) (n : Nat) {x : Str} : Spec B "_law_alike" NoX (n + 1) [.im (.str x), .im (.str x)] fun q => q = .im (.bool true) := by
  refine Spec.of_body (F := F_alike) C.f_alike rfl (by decide) rfl ?_
  have hq := C.quiet
  refine SWs.cons (SW.ife (TW.cmp (EW.name 1 rfl rfl (EW.cnone ⟨_, CmpS.isNone _, ifF (SWs.nil ?_)⟩))))
  refine SWs.cons (SW.ife (TW.cmp (EW.name 1 rfl rfl (EW.cbool ⟨_, CmpS.isTrue _, ifF (SWs.nil ?_)⟩))))
  refine SWs.cons (SW.ife (TW.val (EW.isi rfl C.b_isinstance rfl C.b_str bb_str (EW.name 1 rfl rfl ⟨_, (IsiS.str_ _).2.2.1, ⟨_, TruS.bool _, ifT ?_⟩⟩))))
  exact SWs.cons (SW.ret (EW.and2 (EW.isi rfl C.b_isinstance rfl C.b_str bb_str (EW.name 0 rfl rfl ⟨_, (IsiS.str_ _).2.2.1, ⟨_, TruS.bool _, ifT (EW.cmp (EW.name 0 rfl rfl (EW.name 1 rfl rfl ⟨_, CmpS.eqS _ _, by simp; rfl⟩)))⟩⟩))))
theorem alike_int (C : Cx B) (n : Nat) {x : Int} : Spec B "_law_alike" NoX (n + 2) [.im (.int x), .im (.int x)] fun q => q = .im (.bool true) := by
  refine Spec.of_body (F := F_alike) C.f_alike rfl (by decide) rfl ?_
  have hq := C.quiet
  refine SWs.cons (SW.ife (TW.cmp (EW.name 1 rfl rfl (EW.cnone ⟨_, CmpS.isNone _, ifF (SWs.nil ?_)⟩))))
  refine SWs.cons (SW.ife (TW.cmp (EW.name 1 rfl rfl (EW.cbool ⟨_, CmpS.isTrue _, ifF (SWs.nil ?_)⟩))))
  refine SWs.cons (SW.ife (TW.val (EW.isi rfl C.b_isinstance rfl C.b_str bb_str (EW.name 1 rfl rfl ⟨_, (IsiS.int_ _).2.2.1, ⟨_, TruS.bool _, ifF (SWs.nil ?_)⟩⟩))))
  refine SWs.cons (SW.ife (TW.val (EW.isi rfl C.b_isinstance rfl C.b_int bb_int (EW.name 1 rfl rfl ⟨_, (IsiS.int_ _).1, ⟨_, TruS.bool _, ifT ?_⟩⟩))))
  refine SWs.cons (SW.ret (EW.and2 (EW.call rfl (LW.cons (EW.name 0 rfl rfl (LW.nil ?_))) C.f_whole.some)))
  refine (whole_spec C n _).mono (Nat.le_refl _) ?_ (fun _ x => x)
  rintro _ rfl
  exact ⟨_, TruS.bool _, ifT (EW.cmp (EW.name 0 rfl rfl (EW.name 1 rfl rfl ⟨_, CmpS.eqI _ _, by simp; rfl⟩)))⟩
theorem alike_tup (C : Cx B) (n : Nat) {l : List D} (hl : l.length < 2 ^ 60) (ih : ∀ d ∈ l, Spec B "_law_alike" NoX n [.im d, .im d] fun q => q = .im (.bool true)) : Spec B "_law_alike" NoX (n + 1) [.im (.tup l), .im (.tup l)] fun q => q = .im (.bool true) := by
  refine Spec.of_body (F := F_alike) C.f_alike rfl (by decide) rfl ?_
  have hq := C.quiet
  refine SWs.cons (SW.ife (TW.cmp (EW.name 1 rfl rfl (EW.cnone ⟨_, CmpS.isNone _, ifF (SWs.nil ?_)⟩))))
  refine SWs.cons (SW.ife (TW.cmp (EW.name 1 rfl rfl (EW.cbool ⟨_, CmpS.isTrue _, ifF (SWs.nil ?_)⟩))))
  refine SWs.cons (SW.ife (TW.val (EW.isi rfl C.b_isinstance rfl C.b_str bb_str (EW.name 1 rfl rfl ⟨_, (IsiS.tup_ _).2.2.1, ⟨_, TruS.bool _, ifF (SWs.nil ?_)⟩⟩))))
  refine SWs.cons (SW.ife (TW.val (EW.isi rfl C.b_isinstance rfl C.b_int bb_int (EW.name 1 rfl rfl ⟨_, (IsiS.tup_ _).1, ⟨_, TruS.bool _, ifF (SWs.nil ?_)⟩⟩))))
  refine SWs.cons (SW.ife (TW.bool (AW.andCons (TW.val (EW.isi rfl C.b_isinstance rfl C.b_tuple bb_tuple (EW.name 1 rfl rfl ⟨_, (IsiS.tup_ _).2.2.2.1, ⟨_, TruS.bool _, ifT (AW.andCons (TW.not (TW.val (EW.isi rfl C.b_isinstance rfl C.b_tuple bb_tuple (EW.name 0 rfl rfl ⟨_, (IsiS.tup_ _).2.2.2.1, ⟨_, TruS.bool _, ifF (ifF (SWs.nil ?_))⟩⟩)))))⟩⟩))))))
  refine SWs.cons (SW.ife (TW.bool (AW.andCons (TW.val (EW.isi rfl C.b_isinstance rfl C.b_list bb_list (EW.name 1 rfl rfl ⟨_, (IsiS.tup_ _).2.2.2.2, ⟨_, TruS.bool _, ifF (ifF (SWs.nil ?_))⟩⟩))))))
  refine SWs.cons (SW.ife (TW.cmp (EW.bcall rfl C.b_len bb_len trivial (LW.cons (EW.name 0 rfl rfl (LW.nil ⟨_, BuiS.lenT (by omega), EW.bcall rfl C.b_len bb_len trivial (LW.cons (EW.name 1 rfl rfl (LW.nil ⟨_, BuiS.lenT (by omega), ⟨_, CmpS.neI _ _, ?_⟩⟩)))⟩))))))
  rw [show ((l.length : Int) != (l.length : Int)) = false by simp]
  refine ifF (SWs.nil ?_)
  refine SWs.cons (SW.for_ (EW.bcall rfl C.b_range bb_range trivial (LW.cons (EW.bcall rfl C.b_len bb_len trivial (LW.cons (EW.name 1 rfl rfl (LW.nil (⟨_, BuiS.lenT (by omega), LW.nil (⟨_, BuiS.range1 _, ⟨_, IterS.rng (by decide) (by decide) (by omega) (by omega),
    (fun rest ρ' => ∃ (j : Nat) (x : Option Sl), j ≤ l.length ∧ rest = intsFrom j (l.length - j) ∧ ρ' = [some (.im (.tup l)), some (.im (.tup l)), x]), ?_, ?_, ?_⟩⟩)⟩))))))))
  · exact ⟨0, none, by omega, by simp, rfl⟩
  · rintro d rest ρ' ⟨j, x, h1, h2, rfl⟩
    have hj : j < l.length := by
      cases hq : l.length - j with
      | zero => rw [hq] at h2; cases h2
      | succ q => omega
    obtain ⟨q, hq⟩ : ∃ q, l.length - j = q + 1 := ⟨l.length - j - 1, by omega⟩
    rw [hq, intsFrom] at h2
    cases h2
    refine AsW.name 2 rfl (by decide) (by decide) ?_
    have hd : l[j]? = some l[j] := List.getElem?_eq_getElem hj
    refine SWs.cons (SW.ife (TW.not (TW.val (EW.call rfl (LW.cons (EW.sub (EW.name 0 rfl rfl (EW.name 2 rfl rfl (⟨_, SubS.tup (j := j) (by omega) (by omega) (seqIndex_pos (by omega) (by omega)) hd, LW.cons (EW.sub (EW.name 1 rfl rfl (EW.name 2 rfl rfl (⟨_, SubS.tup (j := j) (by omega) (by omega) (seqIndex_pos (by omega) (by omega)) hd, LW.nil ?_⟩))))⟩))))) C.f_alike.some))))
    refine (ih l[j] (List.getElem_mem hj)).mono (Nat.le_refl _) ?_ (fun _ x => x)
    rintro _ rfl
    exact ⟨_, TruS.bool _, ifF (SWs.nil (SWs.nil ⟨j + 1, _, hj, by rw [show l.length - (j + 1) = q by omega]; rfl, rfl⟩))⟩
  · rintro ρ' ⟨j, x, h1, h2, rfl⟩
    exact SWs.nil (SWs.cons (SW.ret (EW.cbool rfl)))
theorem alike_lst (C : Cx B) (n : Nat) {l : List D} (hl : l.length < 2 ^ 60) (ih : ∀ d ∈ l, Spec B "_law_alike" NoX n [.im d, .im d] fun q => q = .im (.bool true)) : Spec B "_law_alike" NoX (n + 1) [.ct (.lst l), .ct (.lst l)] fun q => q = .im (.bool true) := by
  refine Spec.of_body (F := F_alike) C.f_alike rfl (by decide) rfl ?_
  have hq := C.quiet
  refine SWs.cons (SW.ife (TW.cmp (EW.name 1 rfl rfl (EW.cnone ⟨_, CmpS.isNoneC _ _, ifF (SWs.nil ?_)⟩))))
  refine SWs.cons (SW.ife (TW.cmp (EW.name 1 rfl rfl (EW.cbool ⟨_, CmpS.isTrueC _ _, ifF (SWs.nil ?_)⟩))))
  refine SWs.cons (SW.ife (TW.val (EW.isi rfl C.b_isinstance rfl C.b_str bb_str (EW.name 1 rfl rfl ⟨_, (IsiS.lst_ _ _).2.2.1, ⟨_, TruS.bool _, ifF (SWs.nil ?_)⟩⟩))))
  refine SWs.cons (SW.ife (TW.val (EW.isi rfl C.b_isinstance rfl C.b_int bb_int (EW.name 1 rfl rfl ⟨_, (IsiS.lst_ _ _).1, ⟨_, TruS.bool _, ifF (SWs.nil ?_)⟩⟩))))
  refine SWs.cons (SW.ife (TW.bool (AW.andCons (TW.val (EW.isi rfl C.b_isinstance rfl C.b_tuple bb_tuple (EW.name 1 rfl rfl ⟨_, (IsiS.lst_ _ _).2.2.2.1, ⟨_, TruS.bool _, ifF (ifF (SWs.nil ?_))⟩⟩))))))
  refine SWs.cons (SW.ife (TW.bool (AW.andCons (TW.val (EW.isi rfl C.b_isinstance rfl C.b_list bb_list (EW.name 1 rfl rfl ⟨_, (IsiS.lst_ _ _).2.2.2.2, ⟨_, TruS.bool _, ifT (AW.andCons (TW.not (TW.val (EW.isi rfl C.b_isinstance rfl C.b_list bb_list (EW.name 0 rfl rfl ⟨_, (IsiS.lst_ _ _).2.2.2.2, ⟨_, TruS.bool _, ifF (ifF (SWs.nil ?_))⟩⟩)))))⟩⟩))))))
  refine SWs.cons (SW.ife (TW.cmp (EW.bcall rfl C.b_len bb_len trivial (LW.cons (EW.name 0 rfl rfl (LW.nil ⟨_, BuiS.lenL (by omega), EW.bcall rfl C.b_len bb_len trivial (LW.cons (EW.name 1 rfl rfl (LW.nil ⟨_, BuiS.lenL (by omega), ⟨_, CmpS.neI _ _, ?_⟩⟩)))⟩))))))
  rw [show ((l.length : Int) != (l.length : Int)) = false by simp]
  refine ifF (SWs.nil ?_)
  refine SWs.cons (SW.for_ (EW.bcall rfl C.b_range bb_range trivial (LW.cons (EW.bcall rfl C.b_len bb_len trivial (LW.cons (EW.name 1 rfl rfl (LW.nil (⟨_, BuiS.lenL (by omega), LW.nil (⟨_, BuiS.range1 _, ⟨_, IterS.rng (by decide) (by decide) (by omega) (by omega),
    (fun rest ρ' => ∃ (j : Nat) (x : Option Sl), j ≤ l.length ∧ rest = intsFrom j (l.length - j) ∧ ρ' = [some (.fz (.lst l)), some (.fz (.lst l)), x]), ?_, ?_, ?_⟩⟩)⟩))))))))
  · exact ⟨0, none, by omega, by simp, rfl⟩
  · rintro d rest ρ' ⟨j, x, h1, h2, rfl⟩
    have hj : j < l.length := by
      cases hq : l.length - j with
      | zero => rw [hq] at h2; cases h2
      | succ q => omega
    obtain ⟨q, hq⟩ : ∃ q, l.length - j = q + 1 := ⟨l.length - j - 1, by omega⟩
    rw [hq, intsFrom] at h2
    cases h2
    refine AsW.name 2 rfl (by decide) (by decide) ?_
    have hd : l[j]? = some l[j] := List.getElem?_eq_getElem hj
    refine SWs.cons (SW.ife (TW.not (TW.val (EW.call rfl (LW.cons (EW.sub (EW.name 0 rfl rfl (EW.name 2 rfl rfl (⟨_, SubS.list (by omega) (by omega) hd, LW.cons (EW.sub (EW.name 1 rfl rfl (EW.name 2 rfl rfl (⟨_, SubS.list (by omega) (by omega) hd, LW.nil ?_⟩))))⟩))))) C.f_alike.some))))
    refine (ih l[j] (List.getElem_mem hj)).mono (Nat.le_refl _) ?_ (fun _ x => x)
    rintro _ rfl
    exact ⟨_, TruS.bool _, ifF (SWs.nil (SWs.nil ⟨j + 1, _, hj, by rw [show l.length - (j + 1) = q by omega]; rfl, rfl⟩))⟩
  · rintro ρ' ⟨j, x, h1, h2, rfl⟩
    exact SWs.nil (SWs.cons (SW.ret (EW.cbool rfl)))
inductive Dg : Nat → D → Prop
  | none {m} : Dg m .none
  | tru {m} : Dg m (.bool true)
  | int {m i} : Dg m (.int i)
  | str {m x} : Dg m (.str x)
  | tup {m l} : l.length < 2 ^ 60 → (∀ d ∈ l, Dg m d) → Dg (m + 1) (.tup l)
theorem alike_spec (C : Cx B) {m : Nat} {d : D} (h : Dg m d) : ∀ n, Spec B "_law_alike" NoX (n + m + 2) [.im d, .im d] fun q => q = .im (.bool true) := by
  induction h with
  | @none m => intro n; exact alike_none C (n + m + 1)
  | @tru m => intro n; exact alike_bool C (n + m + 1)
  | @int m i => intro n; exact alike_int C (n + m)
  | @str m i => intro n; exact alike_str C (n + m + 1)
  | @tup m l hl _ ih => intro n; exact alike_tup C (n + m + 2) hl fun d hd => ih d hd n


theorem mem4 {d : D} (hd : d ∈ intsFrom 0 ((4 : Int) - 0).toNat) : ∃ k : Int, 0 ≤ k ∧ k < 4 ∧ d = .int k := by
  rcases List.mem_cons.mp hd with e | hd
  · exact ⟨0, by decide, by decide, e⟩
  rcases List.mem_cons.mp hd with e | hd
  · exact ⟨1, by decide, by decide, e⟩
  rcases List.mem_cons.mp hd with e | hd
  · exact ⟨2, by decide, by decide, e⟩
  rcases List.mem_cons.mp hd with e | hd
  · exact ⟨3, by decide, by decide, e⟩
  cases hd
theorem names_by_spec (C : Cx B) (n : Nat) {c : Int} : Spec B "_law_names_by" NoX (n + 1) [.im (.int c)] fun q => ∃ ss : List Str, ss.length = 4 ∧ ss.Nodup ∧ (∀ s ∈ ss, 1 ≤ s.length) ∧ q = .fr (.lst (ss.map .str)) := by
  refine Spec.of_body (F := F_names_by) C.f_names_by rfl (by decide) rfl ?_
  have hq := C.quiet
  -- _law_letters = 'abcdefghijklmnopqrstuvwxyz'
  refine SWs.cons (SW.assign 1 rfl (by decide) (by decide) (EW.cstr (⟨_, rfl, ?_⟩)))
  -- _law_size = 1 + _law_cell % 8
  refine SWs.cons (SW.assign 2 rfl (by decide) (by decide) (EW.bin (EW.cint (EW.bin (EW.name 0 rfl rfl (EW.cint (⟨_, BinS.modP (by decide), ⟨_, BinS.add _ _, ⟨_, rfl, ?_⟩⟩⟩)))))))
  -- _law_word = ''
  refine SWs.cons (SW.assign 3 rfl (by decide) (by decide) (EW.cstr (⟨_, rfl, ?_⟩)))
  -- _law_number = _law_cell
  refine SWs.cons (SW.assign 4 rfl (by decide) (by decide) (EW.name 0 rfl rfl (⟨_, rfl, ?_⟩)))
  -- for _law_k in range(_law_size):
  refine SWs.cons (SW.for_ (EW.bcall rfl C.b_range bb_range trivial (LW.cons (EW.name 2 rfl rfl (LW.nil (⟨_, BuiS.range1 _, ⟨_, IterS.rng (by decide) (by decide) (by omega) (by omega),
    (fun rest ρ' => ∃ (w : Str) (num : Int) (x : Option Sl), w.length + rest.length = (1 + c % 8).toNat ∧ ρ' = [some (.im (.int c)), some (.im (.str "abcdefghijklmnopqrstuvwxyz")), some (.im (.int (1 + c % 8))), some (.im (.str w)), some (.im (.int num)), x, none, none]), ?_, ?_, ?_⟩⟩))))))
  · exact ⟨"", c, none, by rw [intsFrom_length]; simp [Str.length, show ("" : Str).cps.size = 0 from rfl], rfl⟩
  · rintro d rest ρ' ⟨w, num, x, h1, rfl⟩
    rw [List.length_cons] at h1
    refine AsW.name 5 rfl (by decide) (by decide) ?_
    -- _law_number = (_law_number * 48271 + 11) % 2147483647
    refine SWs.cons (SW.assign 4 rfl (by decide) (by decide) (EW.bin (EW.bin (EW.bin (EW.name 4 rfl rfl (EW.cint (⟨_, BinS.mul (IntMulOk.of_right (by decide)), EW.cint (⟨_, BinS.add _ _, EW.cint (⟨_, BinS.modP (by decide), ⟨_, rfl, ?_⟩⟩)⟩)⟩)))))))
    generalize (num * 48271 + 11) % 2147483647 = num'
    -- _law_word = _law_word + _law_letters[_law_number // 7 % 26]
    refine SWs.cons (SW.assign 3 rfl (by decide) (by decide) (EW.bin (EW.name 3 rfl rfl (EW.sub (EW.name 1 rfl rfl (EW.bin (EW.bin (EW.name 4 rfl rfl (EW.cint (⟨_, BinS.fdivP (by decide) (by decide), EW.cint (⟨_, BinS.modP (by decide), ⟨_, SubS.str (by omega) (by omega) (seqIndex_pos (by omega) ?_) (letters_at (num' / 7 % 26).toNat (by omega)), ⟨_, BinS.addS ?_, ⟨_, rfl, ?_⟩⟩⟩⟩)⟩))))))))))
    · rw [show ("abcdefghijklmnopqrstuvwxyz" : Str).length = 26 from rfl]; omega
    · exact Nat.le_trans (show _ ≤ 64 by show w.length + 1 ≤ 64; omega) (by decide)
    refine SWs.nil ⟨w ++ ⟨#[97 + (num' / 7 % 26).toNat]⟩, num', _, ?_, rfl⟩
    have : (w ++ (⟨#[97 + (num' / 7 % 26).toNat]⟩ : Str)).length = w.length + 1 := Array.size_append
    omega
  · rintro ρ' ⟨w, num, x, h1, rfl⟩
    rw [List.length_nil, Nat.add_zero] at h1
    refine SWs.nil ?_
    -- if _law_cell // 8 % 3 == 2:
    refine SWs.cons (SW.ife (TW.cmp (EW.bin (EW.bin (EW.name 0 rfl rfl (EW.cint (⟨_, BinS.fdivP (by decide) (by decide), EW.cint (⟨_, BinS.modP (by decide), EW.cint (⟨_, CmpS.eqI _ _, ?_⟩)⟩)⟩)))))))
    have hwl : w.length ≤ sizeLine := Nat.le_trans (show _ ≤ 64 by omega) (by decide)
    split
    · rename_i h
      -- return [_law_word[:1] * (1 + (_law_k + _law_cell // 24) % 8) for _law_k in range(4)]
      refine SWs.cons (SW.ret (EW.compV [("_law_k", .loc), ("_law_word", .cel), ("_law_cell", .cel)] 1 [3, 0] (by decide +kernel) (by decide +kernel) (EW.bcall rfl C.b_range bb_range trivial (LW.cons (EW.cint (LW.nil (⟨_, BuiS.range1 _, ⟨_, IterS.rng (by decide) (by decide) (by decide) (by decide),
        (fun d => match d with | .int k => some (.str (nmA (Txt.slice w none (some 1)) (c / 24) k)) | _ => none), ?_, (show 4 ≤ sizeLine by decide), ?_⟩⟩)))))))
      · intro d hd
        have hk := mem4 hd
        obtain ⟨k, h0, h4, rfl⟩ := hk
        refine AsW.name 0 rfl (by decide) (by decide) ⟨rfl, IfsW.nil (ifT (EW.bin (EW.slice (EW.name 1 rfl rfl (PW.none (PW.some (EW.cint (⟨_, rfl, ⟨_, SlcS.str hwl, EW.bin (EW.cint (EW.bin (EW.bin (EW.name 0 rfl rfl (EW.bin (EW.name 2 rfl rfl (EW.cint (⟨_, BinS.fdivP (by decide) (by decide), ⟨_, BinS.add _ _, EW.cint (⟨_, BinS.modP (by decide), ⟨_, BinS.add _ _, ⟨_, BinS.mulS ?_, ⟨_, rfl, rfl⟩⟩⟩⟩)⟩⟩))))))))⟩⟩))))))))⟩
        exact mulOk1 (slice1 (x := w) (by omega)) (by omega) (by omega)
      · exact ⟨_, rfl, nmA_nodup (slice1 (by omega)), nmA_ne (slice1 (by omega)), rfl⟩
    refine SWs.nil ?_
    -- if _law_cell // 8 % 9 in [1, 4, 7]:
    refine SWs.cons (SW.ife (TW.cmp (EW.bin (EW.bin (EW.name 0 rfl rfl (EW.cint (⟨_, BinS.fdivP (by decide) (by decide), EW.cint (⟨_, BinS.modP (by decide), EW.list (LW.cons (EW.cint (LW.cons (EW.cint (LW.cons (EW.cint (LW.nil (⟨_, .cons (.cons (.cons .nil)), (show 3 ≤ sizeLine by decide), ⟨_, CmpS.inInts (is := [1, 4, 7]), ?_⟩⟩))))))))⟩)⟩)))))))
    split
    · rename_i h h'
      -- _law_usual = ['new', ..]
      refine SWs.cons ?_
      refine @SW.assign _ _ _ _ _ _ _ _ _ _ 6 _ rfl (by decide) (by decide) ?_ ?_
      rotate_left
      · intro _; rfl
      refine @EW.strs _ _ _ _ _ _ _ _ (usualL.take 14) (by decide +kernel) (show 14 ≤ sizeLine by decide) ?_
      refine ⟨_, rfl, ?_⟩
      refine SWs.cons ?_
      refine @SW.assign _ _ _ _ _ _ _ _ _ _ 6 _ rfl (by decide) (by decide) ?_ ?_
      rotate_left
      · intro _; rfl
      refine @EW.bin _ _ _ _ _ _ _ _ _ _ ?_
      refine @EW.name _ _ _ _ _ _ _ _ 6 _ _ rfl rfl ?_
      refine @EW.strs _ _ _ _ _ _ _ _ (usualL.drop 14) (by decide +kernel) (show 11 ≤ sizeLine by decide) ?_
      refine ⟨_, BinS.addL (show 25 ≤ sizeLine by decide), ?_⟩
      refine ⟨_, rfl, ?_⟩
      rw [← List.map_append, List.take_append_drop]
      refine SWs.cons (SW.ret (EW.compV [("_law_k", .loc), ("_law_usual", .cel), ("_law_cell", .cel)] 1 [6, 0] (by decide +kernel) (by decide +kernel) (EW.bcall rfl C.b_range bb_range trivial (LW.cons (EW.cint (LW.nil (⟨_, BuiS.range1 _, ⟨_, IterS.rng (by decide) (by decide) (by decide) (by decide),
        (fun d => match d with | .int k => some (.str (nmB (c / 72) k)) | _ => none), ?_, (show 4 ≤ sizeLine by decide), ?_⟩⟩)))))))
      · intro d hd
        obtain ⟨k, h0, h4, rfl⟩ := mem4 hd
        have hu : ∀ j : Int, 0 ≤ j → j < 25 → (usualL.map D.str)[j.toNat]? = some (.str ((usualL[j.toNat]?).getD default)) := fun j h1 h2 => by
          have hl : j.toNat < usualL.length := by rw [show usualL.length = 25 from rfl]; omega
          rw [List.getElem?_map, List.getElem?_eq_getElem hl]; rfl
        refine AsW.name 0 rfl (by decide) (by decide) ⟨rfl, IfsW.nil (ifT (EW.sub (EW.name 1 rfl rfl (EW.bin (EW.bin (EW.bin (EW.name 2 rfl rfl (EW.cint (⟨_, BinS.fdivP (by decide) (by decide), EW.sub (EW.list (LW.cons (EW.cint (LW.cons (EW.cint (LW.cons (EW.cint (LW.cons (EW.cint (LW.nil (⟨_, .cons (.cons (.cons (.cons .nil))), (show 4 ≤ sizeLine by decide), EW.name 0 rfl rfl (⟨_, SubS.list (d := .int (offs k)) h0 (by omega) ?_, ⟨_, BinS.add _ _, EW.cint (⟨_, BinS.modP (by decide), ⟨_, SubS.list (by omega) (by omega) (hu _ (by omega) (by omega)), ⟨_, rfl, rfl⟩⟩⟩)⟩⟩)⟩)))))))))))⟩)))))))))⟩
        have hk : k = 0 ∨ k = 1 ∨ k = 2 ∨ k = 3 := by omega
        rcases hk with rfl | rfl | rfl | rfl <;> rfl
      · exact ⟨_, rfl, nmB_nodup, nmB_ne, rfl⟩
    · refine SWs.nil ?_
      -- _law_spot = _law_cell // 24 % _law_size
      refine SWs.cons (SW.assign 7 rfl (by decide) (by decide) (EW.bin (EW.bin (EW.name 0 rfl rfl (EW.cint (⟨_, BinS.fdivP (by decide) (by decide), EW.name 2 rfl rfl (⟨_, BinS.modP (by omega), ⟨_, rfl, ?_⟩⟩)⟩))))))
      refine SWs.cons (SW.ret (EW.compV [("_law_k", .loc), ("_law_word", .cel), ("_law_letters", .cel), ("_law_spot", .cel), ("_law_cell", .cel)] 1 [3, 1, 7, 0] (by decide +kernel) (by decide +kernel) (EW.bcall rfl C.b_range bb_range trivial (LW.cons (EW.cint (LW.nil (⟨_, BuiS.range1 _, ⟨_, IterS.rng (by decide) (by decide) (by decide) (by decide),
        (fun d => match d with | .int k => some (.str (nmC (Txt.slice w none (some (c / 24 % (1 + c % 8)))) (Txt.slice w (some (c / 24 % (1 + c % 8) + 1)) none) (c / 192) k)) | _ => none), ?_, (show 4 ≤ sizeLine by decide), ?_⟩⟩)))))))
      · intro d hd
        obtain ⟨k, h0, h4, rfl⟩ := mem4 hd
        have hs1 := Txt.slice_le w none (some (c / 24 % (1 + c % 8)))
        have hs2 := Txt.slice_le w (some (c / 24 % (1 + c % 8) + 1)) none
        refine AsW.name 0 rfl (by decide) (by decide) ⟨rfl, IfsW.nil (ifT (EW.bin (EW.bin (EW.slice (EW.name 1 rfl rfl (PW.none (PW.some (EW.name 3 rfl rfl (⟨_, rfl, ⟨_, SlcS.str hwl, EW.sub (EW.name 2 rfl rfl (EW.bin (EW.bin (EW.bin (EW.name 4 rfl rfl (EW.cint (⟨_, BinS.fdivP (by decide) (by decide), EW.bin (EW.cint (EW.name 0 rfl rfl (⟨_, BinS.mul (IntMulOk.of_left (by decide)), ⟨_, BinS.add _ _, EW.cint (⟨_, BinS.modP (by decide), ⟨_, SubS.str (by omega) (by omega) (seqIndex_pos (by omega) ?_) (letters_at ((c / 192 + 7 * k) % 26).toNat (by omega)), ⟨_, BinS.addS ?_, EW.slice (EW.name 1 rfl rfl (PW.some (EW.bin (EW.name 3 rfl rfl (EW.cint (⟨_, BinS.add _ _, ⟨_, rfl, PW.none (⟨_, SlcS.str hwl, ⟨_, BinS.addS ?_, ⟨_, rfl, rfl⟩⟩⟩)⟩⟩))))))⟩⟩⟩)⟩⟩)))⟩)))))))⟩⟩)))))))))⟩
        · rw [show ("abcdefghijklmnopqrstuvwxyz" : Str).length = 26 from rfl]; omega
        · exact Nat.le_trans (show _ ≤ 64 by show (Txt.slice w none (some (c / 24 % (1 + c % 8)))).length + 1 ≤ 64; omega) (by decide)
        · refine Nat.le_trans (show _ ≤ 64 from ?_) (by decide)
          have : (Txt.slice w none (some (c / 24 % (1 + c % 8))) ++ (⟨#[97 + ((c / 192 + 7 * k) % 26).toNat]⟩ : Str)).length = (Txt.slice w none (some (c / 24 % (1 + c % 8)))).length + 1 := Array.size_append
          omega
      · exact ⟨_, rfl, nmC_nodup, nmC_ne, rfl⟩
end Mine
end

section
open PySem PySem.W PyProof.Rows PySem.Calls PyProof
set_option Elab.async false
set_option maxHeartbeats 800000
set_option maxRecDepth 100000
set_option linter.unusedVariables false
namespace Mine
variable {B : Bs}
theorem ifFd {P Q : Prop} {c : Bool} (h : c = false) (x : Q) : if c = true then P else Q := by subst h; simpa using x
theorem ifTd {P Q : Prop} {c : Bool} (h : c = true) (x : P) : if c = true then P else Q := by subst h; simpa using x
theorem h64 {k : Nat} (h : k ≤ 64) : k ≤ sizeLine := Nat.le_trans h (by decide)
theorem sum_by_spec (C : Cx B) (n : Nat) {c wide : Int} {names : List Str} (hw : 0 ≤ wide) (hl : names.length < 64) :
    Spec B "_law_sum_by" NoX (n + 1) [.im (.int c), .ct (.lst (names.map .str)), .im (.int wide)] fun q => q = .im (sumD (sumK c names) (sumL wide c (srt names))) := by
  refine Spec.of_body (F := F_sum_by) C.f_sum_by rfl (by decide) rfl ?_
  have hq := C.quiet
  refine SWs.cons (SW.assign 3 rfl (by decide) (by decide) (EW.name 0 rfl rfl (⟨_, rfl, ?_⟩)))
  refine SWs.cons (SW.assign 4 rfl (by decide) (by decide) (EW.list (LW.nil (⟨_, .nil, (show 0 ≤ sizeLine by decide), ⟨_, rfl, ?_⟩⟩))))
  refine SWs.cons (SW.for_ (EW.bcall rfl C.b_sorted bb_sorted trivial (LW.cons (EW.name 1 rfl rfl (LW.nil (⟨_, BuiS.sorted hl, ⟨_, IterS.list (fun i q => by cases q),
    (fun rest ρ' => ∃ (r : List Str) (num : Int) (ps : List (Str × Int)) (x y : Option Sl), rest = r.map .str ∧ ps ++ sumL wide num r = sumL wide c (srt names) ∧ sumN num r = sumN c (srt names) ∧ ps.length + r.length ≤ 64 ∧
      ρ' = [some (.im (.int c)), some (.fz (.lst (names.map .str))), some (.im (.int wide)), some (.im (.int num)), some (.own (.lst (ps.map pD))), x, y]), ?_, ?_, ?_⟩⟩))))))
  · exact ⟨srt names, c, [], none, none, rfl, rfl, rfl, by rw [(srt_perm names).length_eq]; simp; (clear hw; omega), rfl⟩
  · rintro d rest ρ' ⟨r, num, ps, x, y, e1, e2, e3, e4, rfl⟩
    cases r with
    | nil => cases e1
    | cons nm r =>
      cases e1
      rw [List.length_cons] at e4
      refine AsW.name 5 rfl (by decide) (by decide) ?_
      refine SWs.cons (SW.assign 3 rfl (by decide) (by decide) (EW.bin (EW.bin (EW.bin (EW.name 3 rfl rfl (EW.cint (⟨_, BinS.mul (IntMulOk.of_right (by decide)), EW.cint (⟨_, BinS.add _ _, EW.cint (⟨_, BinS.modP (by decide), ⟨_, rfl, ?_⟩⟩)⟩)⟩)))))))
      refine SWs.cons (SW.assign 6 rfl (by decide) (by decide) (EW.bin (EW.bin (EW.bin (EW.name 3 rfl rfl (EW.cint (⟨_, BinS.fdivP (by decide) (by decide), EW.bin (EW.bin (EW.cint (EW.name 2 rfl rfl (⟨_, BinS.mul (IntMulOk.of_left (by decide)), EW.cint (⟨_, BinS.add _ _, ⟨_, BinS.modP (by (clear e4 e3 hl; omega)), EW.name 2 rfl rfl (⟨_, BinS.sub _ _, ⟨_, rfl, ?_⟩⟩)⟩⟩)⟩))))⟩)))))))
      refine SWs.cons (SW.ife (TW.cmp (EW.name 6 rfl rfl (EW.cint (⟨_, CmpS.neI _ _, ?_⟩)))))
      show if (nxt num / 7 % (2 * wide + 1) - wide != 0) = true then _ else _
      split
      · rename_i h
        simp only [bne_iff_ne, ne_eq] at h
        refine SWs.cons (SW.append 4 rfl rfl (EW.tuple (LW.cons (EW.name 5 rfl rfl (LW.cons (EW.name 6 rfl rfl (LW.nil (⟨_, .cons (.cons .nil), (show 2 ≤ sizeLine by decide), ⟨_, rfl, ?_, ?_⟩⟩))))))))
        · rw [List.length_map]; exact h64 (by (clear h e3 hl hw; omega))
        refine SWs.nil (SWs.nil ⟨r, nxt num, ps ++ [(nm, nxt num / 7 % (2 * wide + 1) - wide)], some (.im (.str nm)), some (.im (.int (nxt num / 7 % (2 * wide + 1) - wide))), rfl, ?_, e3, by simp; (clear h e3 hl hw; omega), ?_⟩)
        · rw [← e2, List.append_assoc]
          congr 1
          show _ = sumL wide num (nm :: r)
          rw [sumL, if_pos h]; rfl
        · rw [List.map_append]; rfl
      · rename_i h
        simp only [bne_iff_ne, ne_eq, Decidable.not_not] at h
        refine SWs.nil (SWs.nil ⟨r, nxt num, ps, some (.im (.str nm)), some (.im (.int (nxt num / 7 % (2 * wide + 1) - wide))), rfl, ?_, e3, by (clear h e3 hl hw; omega), rfl⟩)
        rw [← e2]
        congr 1
        rw [sumL, if_neg (by simpa using h)]
  · rintro ρ' ⟨r, num, ps, x, y, e1, e2, e3, e4, rfl⟩
    have : r = [] := by cases r with | nil => rfl | cons p r => cases e1
    subst this
    simp only [sumL, List.append_nil] at e2
    simp only [sumN] at e3
    subst e2
    refine SWs.nil ?_
    refine SWs.cons (SW.assign 3 rfl (by decide) (by decide) (EW.bin (EW.bin (EW.bin (EW.name 3 rfl rfl (EW.cint (⟨_, BinS.mul (IntMulOk.of_right (by decide)), EW.cint (⟨_, BinS.add _ _, EW.cint (⟨_, BinS.modP (by decide), ⟨_, rfl, ?_⟩⟩)⟩)⟩)))))))
    refine SWs.cons (SW.ret (EW.tuple (LW.cons (EW.bin (EW.bin (EW.bin (EW.name 3 rfl rfl (EW.cint (⟨_, BinS.fdivP (by decide) (by decide), EW.cint (⟨_, BinS.modP (by decide), EW.cint (⟨_, BinS.sub _ _, LW.cons (EW.bcall rfl C.b_tuple bb_tuple trivial (LW.cons (EW.name 4 rfl rfl (LW.nil (⟨_, BuiS.tupleL (h64 (by rw [List.length_map]; simp at e4; (clear e3 hl hw; omega))), LW.nil (⟨_, .cons (.cons .nil), (show 2 ≤ sizeLine by decide), ?_⟩)⟩)))))⟩)⟩)⟩)))))))))
    show _ = _
    rw [sumK, ← e3]; rfl
theorem end_by_spec (C : Cx B) (n : Nat) {c wide most : Int} {names : List Str} (hw : 0 ≤ wide) (hm : 0 < most) (hl : names.length < 64) :
    Spec B "_law_end_by" NoX (n + 2) [.im (.int c), .ct (.lst (names.map .str)), .im (.int wide), .im (.int most)] fun q => q = .im (endSt c names wide most).d := by
  refine Spec.of_body (F := F_end_by) C.f_end_by rfl (by decide) rfl ?_
  have hq := C.quiet
  refine SWs.cons (SW.assign 4 rfl (by decide) (by decide) (EW.call rfl (LW.cons (EW.bin (EW.name 0 rfl rfl (EW.cint (⟨_, BinS.fdivP (by decide) (by decide), LW.cons (EW.name 1 rfl rfl (LW.cons (EW.name 2 rfl rfl (LW.nil ?_))))⟩))))) C.f_sum_by.some))
  refine (sum_by_spec C n hw hl).mono (Nat.le_refl _) ?_ (fun _ x => x)
  rintro _ rfl
  refine ⟨_, rfl, ?_⟩
  refine SWs.cons (SW.ife (TW.cmp (EW.bin (EW.name 0 rfl rfl (EW.cint (⟨_, BinS.modP (by decide), EW.cint (⟨_, CmpS.eqI _ _, ?_⟩)⟩))))))
  split
  · rename_i h
    refine SWs.cons (SW.ret (EW.tuple (LW.cons (EW.cstr (LW.cons (EW.name 4 rfl rfl (LW.nil (⟨_, .cons (.cons .nil), (show 2 ≤ sizeLine by decide), ?_⟩))))))))
    show _ = _
    rw [endSt, if_pos (by simpa using h)]; rfl
  · rename_i h
    refine SWs.nil ?_
    refine SWs.cons (SW.ife (TW.cmp (EW.bin (EW.name 0 rfl rfl (EW.cint (⟨_, BinS.modP (by decide), EW.cint (⟨_, CmpS.eqI _ _, ?_⟩)⟩))))))
    split
    · rename_i h2
      refine SWs.cons (SW.ret (EW.tuple (LW.cons (EW.cstr (LW.cons (EW.bin (EW.cint (EW.bin (EW.bin (EW.name 0 rfl rfl (EW.cint (⟨_, BinS.fdivP (by decide) (by decide), EW.name 3 rfl rfl (⟨_, BinS.modP hm, ⟨_, BinS.add _ _, LW.cons (EW.name 4 rfl rfl (LW.nil (⟨_, .cons (.cons (.cons .nil)), (show 3 ≤ sizeLine by decide), ?_⟩)))⟩⟩)⟩))))))))))))
      show _ = _
      rw [endSt, if_neg (by simpa using h), if_pos (by simpa using h2)]; rfl
    · rename_i h2
      refine SWs.nil ?_
      refine SWs.cons (SW.ret (EW.tuple (LW.cons (EW.cstr (LW.cons (EW.name 4 rfl rfl (LW.nil (⟨_, .cons (.cons .nil), (show 2 ≤ sizeLine by decide), ?_⟩))))))))
      show _ = _
      rw [endSt, if_neg (by simpa using h), if_neg (by simpa using h2)]; rfl
noncomputable def rP (is : List Int) (first count : Int) (sl : Sl) (wide most b : Int) (m : D) (x8 x9 x10 x11 : Option Sl) : List (Option Sl) :=
  [some (.fz (.lst (is.map .int))), some (.im (.int first)), some (.im (.int count)), some sl, some (.im (.int wide)), some (.im (.int most)), some (.im (.int b)), some (.im m), x8, x9, x10, x11]
theorem andor (c : Int) (h0 : 0 ≤ c) (h : c < 2) : ([D.str "and", D.str "or"] : List D)[c.toNat]? = some (.str (cw (decide (c = 0)))) := by
  have : c = 0 ∨ c = 1 := by omega
  rcases this with rfl | rfl <;> rfl
theorem someall (c : Int) (h0 : 0 ≤ c) (h : c < 2) : ([D.str "some", D.str "all"] : List D)[c.toNat]? = some (.str (bw (decide (c = 0)))) := by
  have : c = 0 ∨ c = 1 := by omega
  rcases this with rfl | rfl <;> rfl
theorem plain_step (C : Cx B) (n : Nat) {is : List Int} {first count wide most b : Int} {sl : Sl} {c : Int} {e m : St} {x8 : Option Sl} {Q : Fl → List (Option Sl) → Prop}
    (h : Q .next (rP is first count sl wide most b (stepSt c e m).d x8 (some (.im (.int c))) (some (.im e.d)) (some (.im (.int (c % 9)))))) :
    SWs B F_plain_by NoX n (rP is first count sl wide most b m.d x8 (some (.im (.int c))) (some (.im e.d)) (some (.im (.int (c % 9))))) (stepBody) Q := by
  have hq := C.quiet
  refine SWs.cons (SW.mono (Q := fun fl ρ' => fl = .next ∧ ρ' = rP is first count sl wide most b (w01 c e m).d x8 (some (.im (.int c))) (some (.im e.d)) (some (.im (.int (c % 9))))) (SW.ife (TW.cmp (EW.name 11 rfl rfl (EW.cint (⟨_, CmpS.ltI _ _, ?_⟩))))) ?_)
  · split
    · rename_i h
      have h' : c % 9 < 2 := by simpa using h
      refine SWs.cons (SW.assign 7 rfl (by decide) (by decide) (EW.tuple (LW.cons (EW.sub (EW.list (LW.cons (EW.cstr (LW.cons (EW.cstr (LW.nil (⟨_, .cons (.cons .nil), (show 2 ≤ sizeLine by decide), EW.name 11 rfl rfl (⟨_, SubS.list (by omega) (by omega) (andor _ (by omega) h'), LW.cons (EW.tuple (LW.cons (EW.name 7 rfl rfl (LW.cons (EW.name 10 rfl rfl (LW.nil (⟨_, .cons (.cons .nil), (show 2 ≤ sizeLine by decide), LW.nil (⟨_, .cons (.cons .nil), (show 2 ≤ sizeLine by decide), ⟨_, rfl, SWs.nil ⟨rfl, ?_⟩⟩⟩)⟩)))))))⟩)⟩)))))))))))
      rw [w01, if_pos h']; rfl
    · rename_i h
      refine SWs.nil ⟨rfl, ?_⟩
      rw [w01, if_neg (by simpa using h)]
  rintro fl ρ' ⟨rfl, rfl⟩
  refine SWs.cons (SW.mono (Q := fun fl ρ' => fl = .next ∧ ρ' = rP is first count sl wide most b (w2 c e (w01 c e m)).d x8 (some (.im (.int c))) (some (.im e.d)) (some (.im (.int (c % 9))))) (SW.ife (TW.cmp (EW.name 11 rfl rfl (EW.cint (⟨_, CmpS.eqI _ _, ?_⟩))))) ?_)
  · split
    · rename_i h
      refine SWs.cons (SW.assign 7 rfl (by decide) (by decide) (EW.tuple (LW.cons (EW.cstr (LW.cons (EW.tuple (LW.cons (EW.tuple (LW.cons (EW.cstr (LW.cons (EW.name 7 rfl rfl (LW.nil (⟨_, .cons (.cons .nil), (show 2 ≤ sizeLine by decide), LW.cons (EW.name 10 rfl rfl (LW.nil (⟨_, .cons (.cons .nil), (show 2 ≤ sizeLine by decide), LW.nil (⟨_, .cons (.cons .nil), (show 2 ≤ sizeLine by decide), ⟨_, rfl, SWs.nil ⟨rfl, ?_⟩⟩⟩)⟩)))⟩))))))))))))))
      rw [w2, if_pos (by simpa using h)]; rfl
    · rename_i h
      refine SWs.nil ⟨rfl, ?_⟩
      rw [w2, if_neg (by simpa using h)]
  rintro fl ρ' ⟨rfl, rfl⟩
  refine SWs.cons (SW.mono (Q := fun fl ρ' => fl = .next ∧ ρ' = rP is first count sl wide most b (w3 c e (w2 c e (w01 c e m))).d x8 (some (.im (.int c))) (some (.im e.d)) (some (.im (.int (c % 9))))) (SW.ife (TW.cmp (EW.name 11 rfl rfl (EW.cint (⟨_, CmpS.eqI _ _, ?_⟩))))) ?_)
  · split
    · rename_i h
      refine SWs.cons (SW.assign 7 rfl (by decide) (by decide) (EW.tuple (LW.cons (EW.cstr (LW.cons (EW.tuple (LW.cons (EW.cstr (LW.cons (EW.tuple (LW.cons (EW.name 10 rfl rfl (LW.cons (EW.name 7 rfl rfl (LW.cons (EW.tuple (LW.cons (EW.cstr (LW.cons (EW.tuple (LW.nil (⟨_, .nil, (show 0 ≤ sizeLine by decide), LW.nil (⟨_, .cons (.cons .nil), (show 2 ≤ sizeLine by decide), LW.nil (⟨_, .cons (.cons (.cons .nil)), (show 3 ≤ sizeLine by decide), LW.nil (⟨_, .cons (.cons .nil), (show 2 ≤ sizeLine by decide), LW.nil (⟨_, .cons (.cons .nil), (show 2 ≤ sizeLine by decide), ⟨_, rfl, SWs.nil ⟨rfl, ?_⟩⟩⟩)⟩)⟩)⟩)⟩))))))))))))))))))))))
      rw [w3, if_pos (by simpa using h)]; rfl
    · rename_i h
      refine SWs.nil ⟨rfl, ?_⟩
      rw [w3, if_neg (by simpa using h)]
  rintro fl ρ' ⟨rfl, rfl⟩
  refine SWs.cons (SW.mono (Q := fun fl ρ' => fl = .next ∧ ρ' = rP is first count sl wide most b (w4 c e (w3 c e (w2 c e (w01 c e m)))).d x8 (some (.im (.int c))) (some (.im e.d)) (some (.im (.int (c % 9))))) (SW.ife (TW.cmp (EW.name 11 rfl rfl (EW.cint (⟨_, CmpS.eqI _ _, ?_⟩))))) ?_)
  · split
    · rename_i h
      refine SWs.cons (SW.assign 7 rfl (by decide) (by decide) (EW.tuple (LW.cons (EW.cstr (LW.cons (EW.tuple (LW.cons (EW.tuple (LW.cons (EW.cstr (LW.cons (EW.tuple (LW.cons (EW.name 10 rfl rfl (LW.cons (EW.name 7 rfl rfl (LW.nil (⟨_, .cons (.cons .nil), (show 2 ≤ sizeLine by decide), LW.nil (⟨_, .cons (.cons .nil), (show 2 ≤ sizeLine by decide), LW.cons (EW.tuple (LW.cons (EW.cstr (LW.cons (EW.name 10 rfl rfl (LW.nil (⟨_, .cons (.cons .nil), (show 2 ≤ sizeLine by decide), LW.nil (⟨_, .cons (.cons .nil), (show 2 ≤ sizeLine by decide), LW.nil (⟨_, .cons (.cons .nil), (show 2 ≤ sizeLine by decide), ⟨_, rfl, SWs.nil ⟨rfl, ?_⟩⟩⟩)⟩)⟩)))))))⟩)⟩))))))))))))))))))
      rw [w4, if_pos (by simpa using h)]; rfl
    · rename_i h
      refine SWs.nil ⟨rfl, ?_⟩
      rw [w4, if_neg (by simpa using h)]
  rintro fl ρ' ⟨rfl, rfl⟩
  refine SWs.cons (SW.mono (Q := fun fl ρ' => fl = .next ∧ ρ' = rP is first count sl wide most b (w5 c e (w4 c e (w3 c e (w2 c e (w01 c e m))))).d x8 (some (.im (.int c))) (some (.im e.d)) (some (.im (.int (c % 9))))) (SW.ife (TW.cmp (EW.name 11 rfl rfl (EW.cint (⟨_, CmpS.eqI _ _, ?_⟩))))) ?_)
  · split
    · rename_i h
      refine SWs.cons (SW.assign 7 rfl (by decide) (by decide) (EW.tuple (LW.cons (EW.cstr (LW.cons (EW.tuple (LW.cons (EW.name 10 rfl rfl (LW.cons (EW.tuple (LW.cons (EW.cstr (LW.cons (EW.tuple (LW.nil (⟨_, .nil, (show 0 ≤ sizeLine by decide), LW.nil (⟨_, .cons (.cons .nil), (show 2 ≤ sizeLine by decide), LW.cons (EW.name 7 rfl rfl (LW.nil (⟨_, .cons (.cons (.cons .nil)), (show 3 ≤ sizeLine by decide), LW.nil (⟨_, .cons (.cons .nil), (show 2 ≤ sizeLine by decide), ⟨_, rfl, SWs.nil ⟨rfl, ?_⟩⟩⟩)⟩)))⟩)⟩))))))))))))))))
      rw [w5, if_pos (by simpa using h)]; rfl
    · rename_i h
      refine SWs.nil ⟨rfl, ?_⟩
      rw [w5, if_neg (by simpa using h)]
  rintro fl ρ' ⟨rfl, rfl⟩
  refine SWs.cons (SW.mono (Q := fun fl ρ' => fl = .next ∧ ρ' = rP is first count sl wide most b (w6 c e (w5 c e (w4 c e (w3 c e (w2 c e (w01 c e m)))))).d x8 (some (.im (.int c))) (some (.im e.d)) (some (.im (.int (c % 9))))) (SW.ife (TW.cmp (EW.name 11 rfl rfl (EW.cint (⟨_, CmpS.eqI _ _, ?_⟩))))) ?_)
  · split
    · rename_i h
      refine SWs.cons (SW.assign 7 rfl (by decide) (by decide) (EW.tuple (LW.cons (EW.cstr (LW.cons (EW.tuple (LW.cons (EW.tuple (LW.cons (EW.cstr (LW.cons (EW.tuple (LW.cons (EW.cstr (LW.cons (EW.name 7 rfl rfl (LW.nil (⟨_, .cons (.cons .nil), (show 2 ≤ sizeLine by decide), LW.nil (⟨_, .cons (.cons .nil), (show 2 ≤ sizeLine by decide), LW.cons (EW.tuple (LW.cons (EW.cstr (LW.cons (EW.name 10 rfl rfl (LW.nil (⟨_, .cons (.cons .nil), (show 2 ≤ sizeLine by decide), LW.nil (⟨_, .cons (.cons .nil), (show 2 ≤ sizeLine by decide), LW.nil (⟨_, .cons (.cons .nil), (show 2 ≤ sizeLine by decide), ⟨_, rfl, SWs.nil ⟨rfl, ?_⟩⟩⟩)⟩)⟩)))))))⟩)⟩))))))))))))))))))
      rw [w6, if_pos (by simpa using h)]; rfl
    · rename_i h
      refine SWs.nil ⟨rfl, ?_⟩
      rw [w6, if_neg (by simpa using h)]
  rintro fl ρ' ⟨rfl, rfl⟩
  refine SWs.cons (SW.mono (Q := fun fl ρ' => fl = .next ∧ ρ' = rP is first count sl wide most b (w7 c e (w6 c e (w5 c e (w4 c e (w3 c e (w2 c e (w01 c e m))))))).d x8 (some (.im (.int c))) (some (.im e.d)) (some (.im (.int (c % 9))))) (SW.ife (TW.cmp (EW.name 11 rfl rfl (EW.cint (⟨_, CmpS.eqI _ _, ?_⟩))))) ?_)
  · split
    · rename_i h
      refine SWs.cons (SW.assign 7 rfl (by decide) (by decide) (EW.tuple (LW.cons (EW.cstr (LW.cons (EW.tuple (LW.cons (EW.tuple (LW.cons (EW.cstr (LW.cons (EW.tuple (LW.cons (EW.name 7 rfl rfl (LW.nil (⟨_, .cons .nil, (show 1 ≤ sizeLine by decide), LW.nil (⟨_, .cons (.cons .nil), (show 2 ≤ sizeLine by decide), LW.cons (EW.tuple (LW.cons (EW.cstr (LW.cons (EW.tuple (LW.cons (EW.tuple (LW.cons (EW.cstr (LW.cons (EW.tuple (LW.cons (EW.name 10 rfl rfl (LW.nil (⟨_, .cons .nil, (show 1 ≤ sizeLine by decide), LW.nil (⟨_, .cons (.cons .nil), (show 2 ≤ sizeLine by decide), LW.nil (⟨_, .cons .nil, (show 1 ≤ sizeLine by decide), LW.nil (⟨_, .cons (.cons .nil), (show 2 ≤ sizeLine by decide), LW.nil (⟨_, .cons (.cons .nil), (show 2 ≤ sizeLine by decide), LW.nil (⟨_, .cons (.cons .nil), (show 2 ≤ sizeLine by decide), ⟨_, rfl, SWs.nil ⟨rfl, ?_⟩⟩⟩)⟩)⟩)⟩)⟩)⟩)))))))))))))))⟩)⟩))))))))))))))))
      rw [w7, if_pos (by simpa using h)]; rfl
    · rename_i h
      refine SWs.nil ⟨rfl, ?_⟩
      rw [w7, if_neg (by simpa using h)]
  rintro fl ρ' ⟨rfl, rfl⟩
  refine SWs.cons (SW.mono (Q := fun fl ρ' => fl = .next ∧ ρ' = rP is first count sl wide most b (stepSt c e m).d x8 (some (.im (.int c))) (some (.im e.d)) (some (.im (.int (c % 9))))) (SW.ife (TW.cmp (EW.name 11 rfl rfl (EW.cint (⟨_, CmpS.eqI _ _, ?_⟩))))) ?_)
  · split
    · rename_i h
      refine SWs.cons (SW.assign 7 rfl (by decide) (by decide) (EW.tuple (LW.cons (EW.sub (EW.list (LW.cons (EW.cstr (LW.cons (EW.cstr (LW.nil (⟨_, .cons (.cons .nil), (show 2 ≤ sizeLine by decide), EW.bin (EW.bin (EW.name 9 rfl rfl (EW.cint (⟨_, BinS.fdivP (by decide) (by decide), EW.cint (⟨_, BinS.modP (by decide), ⟨_, SubS.list (by omega) (by omega) (andor _ (by omega) (by omega)), LW.cons (EW.bin (EW.tuple (LW.cons (EW.name 10 rfl rfl (LW.cons (EW.name 10 rfl rfl (LW.cons (EW.name 7 rfl rfl (LW.nil (⟨_, .cons (.cons (.cons .nil)), (show 3 ≤ sizeLine by decide), EW.bin (EW.tuple (LW.cons (EW.name 10 rfl rfl (LW.nil (⟨_, .cons .nil, (show 1 ≤ sizeLine by decide), EW.bin (EW.cint (EW.bin (EW.bin (EW.name 9 rfl rfl (EW.cint (⟨_, BinS.fdivP (by decide) (by decide), EW.cint (⟨_, BinS.modP (by decide), ⟨_, BinS.add _ _, ⟨_, BinS.mulT1 (by omega) (by omega), ⟨_, BinS.addT ?_, LW.nil (⟨_, .cons (.cons .nil), (show 2 ≤ sizeLine by decide), ⟨_, rfl, SWs.nil ⟨rfl, ?_⟩⟩⟩)⟩⟩⟩⟩)⟩))))))⟩)))))⟩))))))))))⟩⟩)⟩))))⟩)))))))))))
      · simp only [List.length_replicate, List.length_cons, List.length_nil]; exact h64 (by omega)
      rw [stepSt, w8, if_pos (by simpa using h), St.d, Sts.ds, Sts.ds, Sts.ds, rep_ds]; rfl
    · rename_i h
      refine SWs.nil ⟨rfl, ?_⟩
      rw [stepSt, w8, if_neg (by simpa using h)]
  rintro fl ρ' ⟨rfl, rfl⟩
  exact SWs.nil h
theorem plain_rest (C : Cx B) (n : Nat) {is : List Int} {first count wide most b : Int} {sl : Sl} {nm : List Str} (hsl : (sl.av 3).ag = .ct (.lst (nm.map .str))) (hw : 0 ≤ wide) (hm : 0 < most) (hl : nm.length < 64) (hi : is.length < 64)
    (hf : 0 ≤ first) (hf2 : first < 1000) (hc : 1 ≤ count) (hc2 : count ≤ 6) {x7 x8 x9 x10 x11 : Option Sl} {Q : Rs → Prop} (h : Q (.im (plainGo is first nm wide most 1 (count - 1).toNat (endSt b nm wide most)).d)) :
    SWs B F_plain_by NoX (n + 2) [some (.fz (.lst (is.map .int))), some (.im (.int first)), some (.im (.int count)), some sl, some (.im (.int wide)), some (.im (.int most)), some (.im (.int b)), x7, x8, x9, x10, x11] (plainBody.drop 3) (RetOk Q) := by
  have hq := C.quiet
  have endcall : ∀ {c : Int}, Spec B "_law_end_by" NoX (n + 2) [.im (.int c), (sl.av 3).ag, .im (.int wide), .im (.int most)] fun q => q = .im (endSt c nm wide most).d := fun {c} => by rw [hsl]; exact end_by_spec C n hw hm hl
  refine SWs.cons (SW.assign 7 rfl (by decide) (by decide) (EW.call rfl (LW.cons (EW.name 6 rfl rfl (LW.cons (EW.name 3 rfl rfl (LW.cons (EW.name 4 rfl rfl (LW.cons (EW.name 5 rfl rfl (LW.nil ?_))))))))) C.f_end_by.some))
  refine endcall.mono (Nat.le_refl _) ?_ (fun _ x => x)
  rintro _ rfl
  refine ⟨_, rfl, ?_⟩
  refine SWs.cons (SW.for_ (EW.bcall rfl C.b_range bb_range trivial (LW.cons (EW.cint (LW.cons (EW.name 2 rfl rfl (LW.nil (⟨_, BuiS.range2 _ _, ⟨_, IterS.rng (by decide) (by decide) (by omega) (by omega),
    (fun rest ρ' => ∃ (k : Int) (j : Nat) (m : St) (y8 y9 y10 y11 : Option Sl), rest = intsFrom k j ∧ 1 ≤ k ∧ k + j ≤ 6 ∧ plainGo is first nm wide most k j m = plainGo is first nm wide most 1 (count - 1).toNat (endSt b nm wide most) ∧ ρ' = rP is first count sl wide most b m.d y8 y9 y10 y11), ?_, ?_, ?_⟩⟩))))))))
  · exact ⟨1, (count - 1).toNat, _, x8, x9, x10, x11, rfl, by decide, by omega, rfl, rfl⟩
  · rintro d rest ρ' ⟨k, j, m, y8, y9, y10, y11, e1, e2, e3, e4, rfl⟩
    cases j with
    | zero => cases e1
    | succ j =>
      cases e1
      refine AsW.name 8 rfl (by decide) (by decide) ?_
      refine SWs.cons (SW.assign 9 rfl (by decide) (by decide) (EW.bin (EW.call rfl (LW.cons (EW.name 0 rfl rfl (LW.cons (EW.bin (EW.name 1 rfl rfl (EW.name 8 rfl rfl (⟨_, BinS.add _ _, LW.nil ?_⟩))))))) C.f_cell_at.some)))
      refine (cell_at_spec C (n + 1) (by omega) (by omega) hi).mono (Nat.le_refl _) ?_ (fun _ x => x)
      rintro _ rfl
      refine EW.bin (EW.cint (EW.name 8 rfl rfl (⟨_, BinS.mul (IntMulOk.of_left (by decide)), ⟨_, BinS.add _ _, ⟨_, rfl, ?_⟩⟩⟩)))
      refine SWs.cons (SW.assign 10 rfl (by decide) (by decide) (EW.call rfl (LW.cons (EW.bin (EW.name 9 rfl rfl (EW.cint (⟨_, BinS.fdivP (by decide) (by decide), LW.cons (EW.name 3 rfl rfl (LW.cons (EW.name 4 rfl rfl (LW.cons (EW.name 5 rfl rfl (LW.nil ?_))))))⟩))))) C.f_end_by.some))
      refine endcall.mono (Nat.le_refl _) ?_ (fun _ x => x)
      rintro _ rfl
      refine ⟨_, rfl, ?_⟩
      refine SWs.cons (SW.assign 11 rfl (by decide) (by decide) (EW.bin (EW.name 9 rfl rfl (EW.cint (⟨_, BinS.modP (by decide), ⟨_, rfl, ?_⟩⟩)))))
      refine plain_step C (n + 2) (c := plainC is first k) (e := endSt (plainC is first k / 9) nm wide most) (m := m) ?_
      exact ⟨k + 1, j, _, _, _, _, _, rfl, by omega, by omega, e4, rfl⟩
  · rintro ρ' ⟨k, j, m, y8, y9, y10, y11, e1, e2, e3, e4, rfl⟩
    have : j = 0 := by cases j with | zero => rfl | succ j => cases e1
    subst this
    refine SWs.nil ?_
    refine SWs.cons (SW.ret (EW.name 7 rfl rfl ?_))
    show Q _
    rw [plainGo] at e4
    rw [e4]; exact h
theorem plain_by_spec (C : Cx B) (n : Nat) {is : List Int} {first count wide most : Int} {names : List Str} (hw : 0 ≤ wide) (hm : 0 < most) (hl : names.length < 64) (hi : is.length < 64)
    (hf : 0 ≤ first) (hf2 : first < 1000) (hc : 1 ≤ count) (hc2 : count ≤ 6) :
    Spec B "_law_plain_by" NoX (n + 3) [.ct (.lst (is.map .int)), .im (.int first), .im (.int count), .ct (.lst (names.map .str)), .im (.int wide), .im (.int most)] fun q => q = .im (plainSt is first count names wide most).d := by
  refine Spec.of_body (F := F_plain_by) C.f_plain_by rfl (by decide) rfl ?_
  have hq := C.quiet
  refine SWs.cons (SW.assign 6 rfl (by decide) (by decide) (EW.call rfl (LW.cons (EW.name 0 rfl rfl (LW.cons (EW.name 1 rfl rfl (LW.nil ?_))))) C.f_cell_at.some))
  refine (cell_at_spec C (n + 1) hf (by omega) hi).mono (Nat.le_refl _) ?_ (fun _ x => x)
  rintro _ rfl
  refine ⟨_, rfl, ?_⟩
  refine SWs.cons (SW.ife (TW.cmp (EW.bin (EW.name 6 rfl rfl (EW.cint (⟨_, BinS.modP (by decide), EW.cint (⟨_, CmpS.eqI _ _, ?_⟩)⟩))))))
  split
  · rename_i h
    refine SWs.cons (SW.ret (EW.tuple (LW.cons (EW.cstr (LW.cons (EW.tuple (LW.nil (⟨_, .nil, (show 0 ≤ sizeLine by decide), LW.nil (⟨_, .cons (.cons .nil), (show 2 ≤ sizeLine by decide), ?_⟩)⟩))))))))
    show _ = _
    rw [plainSt, if_pos (by simpa using h)]; rfl
  · rename_i h
    refine SWs.nil ?_
    refine SWs.cons (SW.ife (TW.cmp (EW.bin (EW.name 6 rfl rfl (EW.cint (⟨_, BinS.modP (by decide), EW.cint (⟨_, CmpS.eqI _ _, ?_⟩)⟩))))))
    have hn : plainSt is first count names wide most = plainGo is first (plainN is first names) wide most 1 (count - 1).toNat (endSt (cellAt is first) (plainN is first names) wide most) := by rw [plainSt, if_neg (by simpa using h)]
    split
    · rename_i h2
      refine SWs.cons (SW.assign 3 rfl (by decide) (by decide) (EW.list (LW.nil (⟨_, .nil, (show 0 ≤ sizeLine by decide), ⟨_, rfl, SWs.nil ?_⟩⟩))))
      refine plain_rest C n (nm := []) rfl hw hm (by decide) hi hf hf2 hc hc2 ?_
      show _ = _
      rw [hn, plainN, if_pos (by simpa using h2)]
    · rename_i h2
      refine SWs.nil ?_
      refine plain_rest C n (nm := names) rfl hw hm hl hi hf hf2 hc hc2 ?_
      show _ = _
      rw [hn, plainN, if_neg (by simpa using h2)]
theorem nameAt {names : List Str} (h4 : names.length = 4) (c : Int) (h0 : 0 ≤ c) (h : c < 4) : (names.map D.str)[c.toNat]? = some (.str (names.getD c.toNat default)) := by
  have hj : c.toNat < names.length := by omega
  rw [List.getElem?_map, List.getD_eq_getElem?_getD, List.getElem?_eq_getElem hj]; rfl
theorem bound_by_spec (C : Cx B) (n : Nat) {c : Int} {s : St} {names : List Str} (h4 : names.length = 4) :
    Spec B "_law_bound_by" NoX (n + 1) [.im (.int c), .im s.d, .ct (.lst (names.map .str))] fun q => q = .im (boundSt c s names).d := by
  refine Spec.of_body (F := F_bound_by) C.f_bound_by rfl (by decide) rfl ?_
  have hq := C.quiet
  refine SWs.cons (SW.assign 3 rfl (by decide) (by decide) (EW.tuple (LW.cons (EW.sub (EW.list (LW.cons (EW.cstr (LW.cons (EW.cstr (LW.nil (⟨_, .cons (.cons .nil), (show 2 ≤ sizeLine by decide), EW.bin (EW.name 0 rfl rfl (EW.cint (⟨_, BinS.modP (by decide), ⟨_, SubS.list (by omega) (by omega) (someall _ (by omega) (by omega)), LW.cons (EW.sub (EW.name 2 rfl rfl (EW.bin (EW.bin (EW.name 0 rfl rfl (EW.cint (⟨_, BinS.fdivP (by decide) (by decide), EW.cint (⟨_, BinS.modP (by decide), ⟨_, SubS.list (by omega) (by omega) (nameAt h4 _ (by omega) (by omega)), LW.cons (EW.name 1 rfl rfl (LW.nil (⟨_, .cons (.cons (.cons .nil)), (show 3 ≤ sizeLine by decide), ⟨_, rfl, ?_⟩⟩)))⟩⟩)⟩)))))))⟩⟩)))⟩)))))))))))
  refine SWs.cons (SW.assign 4 rfl (by decide) (by decide) (EW.bin (EW.bin (EW.name 0 rfl rfl (EW.cint (⟨_, BinS.fdivP (by decide) (by decide), EW.cint (⟨_, BinS.modP (by decide), ⟨_, rfl, ?_⟩⟩)⟩))))))
  refine SWs.cons (SW.ife (TW.cmp (EW.name 4 rfl rfl (EW.cint (⟨_, CmpS.eqI _ _, ?_⟩)))))
  split
  · rename_i h
    refine SWs.cons (SW.ret (EW.name 3 rfl rfl (?_)))
    show _ = _
    unfold boundSt
    rw [if_pos (by simpa using h)]; rfl
  rename_i h
  refine SWs.nil ?_
  refine SWs.cons (SW.ife (TW.cmp (EW.name 4 rfl rfl (EW.cint (⟨_, CmpS.eqI _ _, ?_⟩)))))
  split
  · rename_i h2
    refine SWs.cons (SW.ret (EW.tuple (LW.cons (EW.cstr (LW.cons (EW.name 3 rfl rfl (LW.nil (⟨_, .cons (.cons .nil), (show 2 ≤ sizeLine by decide), ?_⟩))))))))
    show _ = _
    unfold boundSt
    rw [if_neg (by simpa using h), if_pos (by simpa using h2)]; rfl
  rename_i h2
  refine SWs.nil ?_
  refine SWs.cons (SW.ife (TW.cmp (EW.name 4 rfl rfl (EW.cint (⟨_, CmpS.eqI _ _, ?_⟩)))))
  split
  · rename_i h3
    refine SWs.cons (SW.ret (EW.tuple (LW.cons (EW.cstr (LW.cons (EW.tuple (LW.cons (EW.name 1 rfl rfl (LW.cons (EW.name 3 rfl rfl (LW.nil (⟨_, .cons (.cons .nil), (show 2 ≤ sizeLine by decide), LW.nil (⟨_, .cons (.cons .nil), (show 2 ≤ sizeLine by decide), ?_⟩)⟩))))))))))))
    show _ = _
    unfold boundSt
    rw [if_neg (by simpa using h), if_neg (by simpa using h2), if_pos (by simpa using h3)]; rfl
  rename_i h3
  refine SWs.nil ?_
  refine SWs.cons (SW.ret (EW.tuple (LW.cons (EW.cstr (LW.cons (EW.tuple (LW.cons (EW.tuple (LW.cons (EW.cstr (LW.cons (EW.tuple (LW.nil (⟨_, .nil, (show 0 ≤ sizeLine by decide), LW.nil (⟨_, .cons (.cons .nil), (show 2 ≤ sizeLine by decide), LW.cons (EW.tuple (LW.cons (EW.cstr (LW.cons (EW.tuple (LW.cons (EW.cstr (LW.cons (EW.tuple (LW.cons (EW.name 3 rfl rfl (LW.cons (EW.name 1 rfl rfl (LW.nil (⟨_, .cons (.cons .nil), (show 2 ≤ sizeLine by decide), LW.nil (⟨_, .cons (.cons .nil), (show 2 ≤ sizeLine by decide), LW.nil (⟨_, .cons (.cons .nil), (show 2 ≤ sizeLine by decide), LW.nil (⟨_, .cons (.cons .nil), (show 2 ≤ sizeLine by decide), LW.nil (⟨_, .cons (.cons .nil), (show 2 ≤ sizeLine by decide), ?_⟩)⟩)⟩)⟩)⟩)))))))))))))))⟩)⟩))))))))))))))
  show _ = _
  unfold boundSt
  rw [if_neg (by simpa using h), if_neg (by simpa using h2), if_neg (by simpa using h3)]; rfl
end Mine
end

section
open PySem PySem.W PyProof.Rows PySem.Calls PyProof
set_option Elab.async false
set_option maxHeartbeats 800000
set_option maxRecDepth 100000
set_option linter.unusedVariables false
namespace Mine
variable {B : Bs}
noncomputable def St.kw : St → Str
  | .above _ _ => "above"
  | .nought _ _ => "nought"
  | .goes _ _ _ => "goes"
  | .neg _ => "not"
  | .conn a _ => cw a
  | .bind e _ _ => bw e
noncomputable def St.tl : St → List D
  | .above k ps => [sumD k ps]
  | .nought k ps => [sumD k ps]
  | .goes m k ps => [.int m, sumD k ps]
  | .neg s => [s.d]
  | .conn _ l => [.tup l.ds]
  | .bind _ nm s => [.str nm, s.d]
theorem St.d_eq (s : St) : s.d = .tup (.str s.kw :: s.tl) := by cases s <;> rfl
noncomputable def St.inns : St → Sts
  | .neg s => l1 s
  | .conn _ l => l
  | .bind _ _ s => l1 s
  | _ => .nil
noncomputable def St.isB : St → Bool
  | .bind _ _ _ => true
  | _ => false
theorem St.ind2 {P : St → Prop} (h : ∀ s : St, s.inns.All P → P s) : ∀ s, P s :=
  St.ind (fun k ps => h _ trivial) (fun k ps => h _ trivial) (fun m k ps => h _ trivial) (fun s ih => h (.neg s) ⟨ih, trivial⟩) (fun a l ih => h (.conn a l) ih) (fun e nm s ih => h (.bind e nm s) ⟨ih, trivial⟩)
theorem Sts.All.and {P Q : St → Prop} : ∀ {l : Sts}, l.All P → l.All Q → l.All fun s => P s ∧ Q s
  | .nil, _, _ => trivial
  | .cons s l, ⟨h1, h2⟩, ⟨h3, h4⟩ => ⟨⟨h1, h3⟩, Sts.All.and h2 h4⟩
theorem Sts.Gd.all {ss : List Str} {M : Nat} : ∀ {l : Sts}, l.Gd ss M → l.All fun s => s.Gd ss M
  | .nil, _ => trivial
  | .cons s l, h => ⟨h.1, Sts.Gd.all h.2⟩
theorem Sts.dp_all : ∀ (l : Sts) {n : Nat}, l.dp ≤ n → l.All fun s => s.dp ≤ n
  | .nil, _, _ => trivial
  | .cons s l, n, h => by
    have h1 : max s.dp l.dp ≤ n := h
    exact ⟨by omega, Sts.dp_all l (by omega)⟩
theorem inns_gd {ss : List Str} {M : Nat} {s : St} (g : s.Gd ss M) : s.inns.All fun t => t.Gd ss M := by
  cases s with
  | neg s => exact ⟨g, trivial⟩
  | conn a l => exact Sts.Gd.all g.2
  | bind e nm s => exact ⟨g.2, trivial⟩
  | _ => exact trivial
theorem inns_len {ss : List Str} {M : Nat} {s : St} (g : s.Gd ss M) : s.inns.len ≤ 30 := by
  cases s with
  | neg s => exact (by decide : 1 ≤ 30)
  | conn a l => exact g.1
  | bind e nm s => exact (by decide : 1 ≤ 30)
  | _ => exact (by decide : 0 ≤ 30)
theorem inns_dp (s : St) : s.inns.All fun t => t.dp + 1 ≤ s.dp := by
  cases s with
  | neg s => exact ⟨Nat.le_refl _, trivial⟩
  | conn a l => exact (Sts.dp_all l (Nat.le_refl _)).imp fun t h => Nat.succ_le_succ h
  | bind e nm s => exact ⟨Nat.le_refl _, trivial⟩
  | _ => exact trivial
theorem inns_pl {s : St} (h : s.isB = false) : s.pl = s.inns.pl := by
  cases s with
  | neg s => show s.pl = (s.pl && true); simp
  | conn a l => rfl
  | bind e nm s => cases h
  | _ => rfl
theorem pl_B {s : St} (h : s.isB = true) : s.pl = false := by
  cases s with
  | bind e nm s => rfl
  | _ => cases h
theorem kw_B (s : St) : (["some", "all"] : List Str).contains s.kw = s.isB := by
  have h1 : (["some", "all"] : List Str).contains "above" = false := by decide +kernel
  have h2 : (["some", "all"] : List Str).contains "nought" = false := by decide +kernel
  have h3 : (["some", "all"] : List Str).contains "goes" = false := by decide +kernel
  have h4 : (["some", "all"] : List Str).contains "not" = false := by decide +kernel
  have h5 : ∀ a, (["some", "all"] : List Str).contains (cw a) = false := by decide +kernel
  have h6 : ∀ a, (["some", "all"] : List Str).contains (bw a) = true := by decide +kernel
  cases s with
  | above k ps => exact h1
  | nought k ps => exact h2
  | goes m k ps => exact h3
  | neg s => exact h4
  | conn a l => exact h5 a
  | bind e nm s => exact h6 e
theorem head0 {l : List D} {d : D} : seqIndex? 0 (d :: l).length = some 0 := seqIndex_pos (by decide) (by simp)
theorem inner_spec (C : Cx B) (n : Nat) (s : St) (hl : s.inns.len ≤ 30) : Spec B "inner" NoX (n + 1) [.im s.d] fun q => q = .fr (.lst s.inns.ds) := by
  obtain ⟨vB, g1, g2⟩ := gB C
  refine Spec.of_body (F := F_inner) C.f_inner rfl (by decide) rfl ?_
  have hq := C.quiet
  have atom : ∀ {w : Str} {tl : List D}, (w == "not") = false → (w == "and") = false → (w == "or") = false → (["some", "all"] : List Str).contains w = false →
      SWs B F_inner NoX n (start F_inner [.im (.tup (.str w :: tl))]) innerBody (RetOk fun q => q = .fr (.lst [])) := fun {w tl} h1 h2 h3 h4 => by
    refine SWs.cons (SW.assign 1 rfl (by decide) (by decide) (EW.sub (EW.name 0 rfl rfl (EW.cint (⟨_, SubS.tup (j := 0) (by decide) (by decide) head0 rfl, ⟨_, rfl, ?_⟩⟩)))))
    refine SWs.cons (SW.ife (TW.cmp (EW.name 1 rfl rfl (EW.cstr (⟨_, CmpS.eqS _ _, ifFd h1 (SWs.nil ?_)⟩)))))
    refine SWs.cons (SW.ife (TW.bool (AW.orCons (TW.cmp (EW.name 1 rfl rfl (EW.cstr (⟨_, CmpS.eqS _ _, ifFd h2 (AW.orCons (TW.cmp (EW.name 1 rfl rfl (EW.cstr (⟨_, CmpS.eqS _ _, ifFd h3 (AW.orNil (ifF (SWs.nil ?_)))⟩)))))⟩)))))))
    refine SWs.cons (SW.ife (TW.cmp (EW.name 1 rfl rfl (EW.glob rfl g1 g2 (⟨_, CmpS.inTS, ifFd h4 (SWs.nil ?_)⟩)))))
    exact SWs.cons (SW.ret (EW.list (LW.nil (⟨_, .nil, (show 0 ≤ sizeLine by decide), rfl⟩))))
  cases s with
  | above k ps => exact atom (w := "above") (tl := [sumD k ps]) (by decide +kernel) (by decide +kernel) (by decide +kernel) (by decide +kernel)
  | nought k ps => exact atom (w := "nought") (tl := [sumD k ps]) (by decide +kernel) (by decide +kernel) (by decide +kernel) (by decide +kernel)
  | goes m k ps => exact atom (w := "goes") (tl := [.int m, sumD k ps]) (by decide +kernel) (by decide +kernel) (by decide +kernel) (by decide +kernel)
  | neg s =>
    show SWs B F_inner NoX n (start F_inner [.im (.tup [.str "not", s.d])]) innerBody _
    refine SWs.cons (SW.assign 1 rfl (by decide) (by decide) (EW.sub (EW.name 0 rfl rfl (EW.cint (⟨_, SubS.tup (j := 0) (by decide) (by decide) rfl rfl, ⟨_, rfl, ?_⟩⟩)))))
    refine SWs.cons (SW.ife (TW.cmp (EW.name 1 rfl rfl (EW.cstr (⟨_, CmpS.eqS _ _, ifTd (by decide +kernel) ?_⟩)))))
    exact SWs.cons (SW.ret (EW.list (LW.cons (EW.sub (EW.name 0 rfl rfl (EW.cint (⟨_, SubS.tup (j := 1) (by decide) (by decide) rfl rfl, LW.nil (⟨_, .cons .nil, (show 1 ≤ sizeLine by decide), rfl⟩)⟩)))))))
  | conn a l =>
    show SWs B F_inner NoX n (start F_inner [.im (.tup [.str (cw a), .tup l.ds])]) innerBody _
    have hll : l.ds.length ≤ sizeLine := by rw [Sts.ds_len]; exact h64 (Nat.le_trans hl (by decide))
    refine SWs.cons (SW.assign 1 rfl (by decide) (by decide) (EW.sub (EW.name 0 rfl rfl (EW.cint (⟨_, SubS.tup (j := 0) (by decide) (by decide) rfl rfl, ⟨_, rfl, ?_⟩⟩)))))
    refine SWs.cons (SW.ife (TW.cmp (EW.name 1 rfl rfl (EW.cstr (⟨_, CmpS.eqS _ _, ifFd (by cases a <;> decide +kernel) (SWs.nil ?_)⟩)))))
    refine SWs.cons (SW.ife (TW.mono (Q := fun b => b = true) (TW.bool (AW.orCons (TW.cmp (EW.name 1 rfl rfl (EW.cstr (⟨_, CmpS.eqS _ _, ?_⟩)))))) ?_))
    · cases a with
      | true => exact ifTd (by decide +kernel) rfl
      | false => exact ifFd (by decide +kernel) (AW.orCons (TW.cmp (EW.name 1 rfl rfl (EW.cstr (⟨_, CmpS.eqS _ _, ifTd (by decide +kernel) rfl⟩)))))
    rintro _ rfl
    exact ifT (SWs.cons (SW.ret (EW.bcall rfl C.b_list bb_list trivial (LW.cons (EW.sub (EW.name 0 rfl rfl (EW.cint (⟨_, SubS.tup (j := 1) (by decide) (by decide) rfl rfl, LW.nil (⟨_, BuiS.listT hll, rfl⟩)⟩))))))))
  | bind e nm s =>
    show SWs B F_inner NoX n (start F_inner [.im (.tup [.str (bw e), .str nm, s.d])]) innerBody _
    refine SWs.cons (SW.assign 1 rfl (by decide) (by decide) (EW.sub (EW.name 0 rfl rfl (EW.cint (⟨_, SubS.tup (j := 0) (by decide) (by decide) rfl rfl, ⟨_, rfl, ?_⟩⟩)))))
    refine SWs.cons (SW.ife (TW.cmp (EW.name 1 rfl rfl (EW.cstr (⟨_, CmpS.eqS _ _, ifFd (by cases e <;> decide +kernel) (SWs.nil ?_)⟩)))))
    refine SWs.cons (SW.ife (TW.bool (AW.orCons (TW.cmp (EW.name 1 rfl rfl (EW.cstr (⟨_, CmpS.eqS _ _, ifFd (by cases e <;> decide +kernel) (AW.orCons (TW.cmp (EW.name 1 rfl rfl (EW.cstr (⟨_, CmpS.eqS _ _, ifFd (by cases e <;> decide +kernel) (AW.orNil (ifF (SWs.nil ?_)))⟩)))))⟩)))))))
    refine SWs.cons (SW.ife (TW.cmp (EW.name 1 rfl rfl (EW.glob rfl g1 g2 (⟨_, CmpS.inTS, ifTd (by cases e <;> decide +kernel) ?_⟩)))))
    exact SWs.cons (SW.ret (EW.list (LW.cons (EW.sub (EW.name 0 rfl rfl (EW.cint (⟨_, SubS.tup (j := 2) (by decide) (by decide) rfl rfl, LW.nil (⟨_, .cons .nil, (show 1 ≤ sizeLine by decide), rfl⟩)⟩)))))))
theorem is_plain_spec (C : Cx B) {ss : List Str} {M : Nat} : ∀ s : St, s.Gd ss M → ∀ n, Spec B "is_plain" NoX (n + s.dp + 2) [.im s.d] fun q => q = .im (.bool s.pl) := by
  refine St.ind2 fun s ih g n => ?_
  obtain ⟨vB, g1, g2⟩ := gB C
  rw [St.d_eq]
  refine Spec.of_body (F := F_is_plain) C.f_is_plain rfl (by decide) rfl ?_
  have hq := C.quiet
  refine SWs.cons (SW.ife (TW.cmp (EW.sub (EW.name 0 rfl rfl (EW.cint (⟨_, SubS.tup (j := 0) (by decide) (by decide) head0 rfl, EW.glob rfl g1 g2 (⟨_, CmpS.inTS, ?_⟩)⟩))))))
  rw [kw_B]
  cases hB : s.isB with
  | true =>
    refine ifT (SWs.cons (SW.ret (EW.cbool ?_)))
    show _ = _
    rw [pl_B hB]
  | false =>
    refine ifF (SWs.nil ?_)
    refine SWs.cons (SW.for_ (EW.call rfl (LW.cons (EW.name 0 rfl rfl (LW.nil ?_))) C.f_inner.some))
    show Spec B "inner" NoX (n + s.dp + 1) [.im (.tup (.str s.kw :: s.tl))] _
    rw [← St.d_eq]
    refine (inner_spec C (n + s.dp) s (inns_len g)).mono (Nat.le_refl _) ?_ (fun _ x => x)
    rintro _ rfl
    refine ⟨_, IterS.list (fun i q => by cases q), (fun rest ρ' => ∃ (r : Sts) (x : Option Sl), rest = r.ds ∧ s.pl = r.pl ∧ r.All (fun t => Spec B "is_plain" NoX (n + s.dp + 1) [.im t.d] fun q => q = .im (.bool t.pl)) ∧ ρ' = [some (.im s.d), x]), ?_, ?_, ?_⟩
    · refine ⟨s.inns, none, rfl, inns_pl hB, ((ih.and (inns_gd g)).and (inns_dp s)).imp fun t h => ?_, by rw [St.d_eq]; rfl⟩
      exact (h.1.1 h.1.2 (n + (s.dp - t.dp - 1))).mono (by have := h.2; omega) (fun _ x => x) (fun _ x => x)
    · rintro d rest ρ' ⟨r, x, e1, e2, e3, rfl⟩
      cases r with
      | nil => cases e1
      | cons t r =>
        cases e1
        refine AsW.name 1 rfl (by decide) (by decide) ?_
        refine SWs.cons (SW.ife (TW.not (TW.val (EW.call rfl (LW.cons (EW.name 1 rfl rfl (LW.nil ?_))) C.f_is_plain.some))))
        refine e3.1.mono (Nat.le_refl _) ?_ (fun _ x => x)
        rintro _ rfl
        refine ⟨_, TruS.bool _, ?_⟩
        have e2' : s.pl = (t.pl && r.pl) := e2
        cases hp : t.pl with
        | false =>
          refine ifT (SWs.cons (SW.ret (EW.cbool ?_)))
          show _ = _
          rw [e2', hp]; rfl
        | true =>
          refine ifF (SWs.nil (SWs.nil ⟨r, _, rfl, ?_, e3.2, rfl⟩))
          rw [e2', hp]; rfl
    · rintro ρ' ⟨r, x, e1, e2, e3, rfl⟩
      cases r with
      | cons t r => cases e1
      | nil =>
        refine SWs.nil (SWs.cons (SW.ret (EW.cbool ?_)))
        show _ = _
        rw [e2]; rfl
noncomputable def NPl (s : St) : Str → Prop := fun c => c = "NotPlain" ∧ s.pl = false
theorem need_plain_spec (C : Cx B) {ss : List Str} {M : Nat} {s : St} (g : s.Gd ss M) (n : Nat) : Spec B "need_plain" (NPl s) (n + s.dp + 3) [.im s.d] fun q => s.pl = true ∧ q = .im .none := by
  refine Spec.of_body (F := F_need_plain) C.f_need_plain rfl (by decide) rfl ?_
  have hq := C.quiet
  refine SWs.cons (SW.ife (TW.not (TW.val (EW.call rfl (LW.cons (EW.name 0 rfl rfl (LW.nil ?_))) C.f_is_plain.some))))
  refine (is_plain_spec C s g n).mono (Nat.le_refl _) ?_ (fun _ x => x.elim)
  rintro _ rfl
  refine ⟨_, TruS.bool _, ?_⟩
  cases hp : s.pl with
  | false => exact ifT (SWs.cons (SW.raise_ rfl C.o_NotPlain ⟨rfl, hp⟩))
  | true => exact ifF (SWs.nil (SWs.nil ⟨rfl, rfl⟩))
end Mine
end

section
open PySem PySem.W PyProof.Rows PySem.Calls PyProof
set_option Elab.async false
set_option maxHeartbeats 800000
set_option maxRecDepth 100000
set_option linter.unusedVariables false
namespace Mine
variable {B : Bs}
noncomputable def Bd (m : Nat) (a : Int) : Prop := a.natAbs < 10 ^ m
theorem bits_of {a : Int} (h : Bd 400 a) : Builtin.Int.intBits a ≤ 2 ^ 20 := by
  unfold Builtin.Int.intBits
  unfold Bd at h
  by_cases q : a.natAbs = 0
  · have : a = 0 := by (clear h; omega)
    simp [this]
  · have : a.natAbs.log2 < 1400 := (Nat.log2_lt q).mpr (Nat.lt_of_lt_of_le h (by decide +kernel))
    have e : (2 : Nat) ^ 20 = 1048576 := by decide
    split <;> omega
theorem mulOk {a b : Int} (ha : Bd 400 a) (hb : Bd 400 b) : IntMulOk a b := IntMulOk.of_bits (bits_of ha) (bits_of hb)
theorem Bd.of_le {a : Int} {M : Nat} (h : a.natAbs ≤ M) (hM : M < 10 ^ 400 := by decide +kernel) : Bd 400 a := Nat.lt_of_le_of_lt h hM
theorem iAt_in {vs : List (Str × Int)} {k : Str} {v : Int} (h : iAt vs k = some v) : (k, v) ∈ vs := by
  induction vs with
  | nil => cases h
  | cons p l ih =>
    rw [iAt_cons] at h
    split at h
    · rename_i q; cases h; subst q; exact List.mem_cons_self
    · exact List.mem_cons_of_mem _ (ih h)
theorem vAt_bd {vs : List (Str × Int)} {m : Nat} (hv : ∀ kv ∈ vs, Bd m kv.2) (k : Str) : Bd m (vAt vs k) := by
  unfold vAt
  cases h : iAt vs k with
  | none => exact Nat.pow_pos (by decide)
  | some v => exact hv _ (iAt_in h)
theorem last2 {a b : D} : seqIndex? (-1) [a, b].length = some 1 := rfl
theorem last3 {a b c : D} : seqIndex? (-1) [a, b, c].length = some 2 := rfl
end Mine
end

section
open PySem PySem.W PyProof.Rows PySem.Calls PyProof
set_option Elab.async false
set_option maxHeartbeats 800000
set_option maxRecDepth 100000
set_option linter.unusedVariables false
namespace Mine
variable {B : Bs}
theorem added_spec (C : Cx B) (n : Nat) {k1 k2 : Int} {p1 p2 : List (Str × Int)} (hl : p1.length + p2.length < 64) :
    Spec B "added" NoX (n + 2) [.im (sumD k1 p1), .im (sumD k2 p2)] fun q => q = .im (sumD (k1 + k2) (madeL (p1 ++ p2))) := by
  refine Spec.of_body (F := F_added) C.f_added rfl (by decide) rfl ?_
  have hq := C.quiet
  refine SWs.cons (SW.ret (EW.call rfl (LW.cons (EW.bin (EW.sub (EW.name 0 rfl rfl (EW.cint (⟨_, SubS.tup (j := 0) (by decide) (by decide) rfl rfl, EW.sub (EW.name 1 rfl rfl (EW.cint (⟨_, SubS.tup (j := 0) (by decide) (by decide) rfl rfl, ⟨_, BinS.add _ _, LW.cons (EW.bin (EW.bcall rfl C.b_list bb_list trivial (LW.cons (EW.sub (EW.name 0 rfl rfl (EW.cint (⟨_, SubS.tup (j := 1) (by decide) (by decide) rfl rfl, LW.nil (⟨_, BuiS.listT (h64 (by rw [List.length_map]; omega)), EW.bcall rfl C.b_list bb_list trivial (LW.cons (EW.sub (EW.name 1 rfl rfl (EW.cint (⟨_, SubS.tup (j := 1) (by decide) (by decide) rfl rfl, LW.nil (⟨_, BuiS.listT (h64 (by rw [List.length_map]; omega)), ⟨_, BinS.addL (h64 (by rw [List.length_map, List.length_map]; omega)), LW.nil ?_⟩⟩)⟩)))))⟩)⟩)))))))⟩⟩)))⟩)))))) C.f_made.some))
  have e : p1.map pD ++ p2.map pD = (p1 ++ p2).map pD := by simp
  rw [e]
  refine (made_spec C n (by rw [List.length_append]; exact hl)).mono (Nat.le_refl _) ?_ (fun _ x => x)
  rintro _ rfl
  rfl
noncomputable def sclF (m : Int) (d : D) : Option D := (asP d).map fun p => pD (p.1, m * p.2)
theorem sclF_list (m : Int) (ps : List (Str × Int)) : (ps.map pD).filterMap (sclF m) = (scl m ps).map pD := by
  induction ps with
  | nil => rfl
  | cons p ps ih => rw [List.map_cons, List.filterMap_cons_some (show sclF m (pD p) = some (pD (p.1, m * p.2)) from rfl), ih]; rfl
theorem times_spec (C : Cx B) (n : Nat) {m k : Int} {ps : List (Str × Int)} (hl : ps.length < 64) (hm : Bd 400 m) (hk : Bd 400 k) (hp : ∀ p ∈ ps, Bd 400 p.2) :
    Spec B "times" NoX (n + 2) [.im (.int m), .im (sumD k ps)] fun q => q = .im (sumD (m * k) (madeL (scl m ps))) := by
  refine Spec.of_body (F := F_times) C.f_times rfl (by decide) rfl ?_
  have hq := C.quiet
  refine SWs.cons (SW.ret (EW.call rfl (LW.cons (EW.bin (EW.name 0 rfl rfl (EW.sub (EW.name 1 rfl rfl (EW.cint (⟨_, SubS.tup (j := 0) (by decide) (by decide) rfl rfl, ⟨_, BinS.mul (mulOk hm hk), LW.cons (EW.compV [("name", .loc), ("part", .loc), ("number", .cel)] 2 [0] (by decide +kernel) (by decide +kernel) (EW.sub (EW.name 1 rfl rfl (EW.cint (⟨_, SubS.tup (j := 1) (by decide) (by decide) rfl rfl, ⟨_, IterS.tup, sclF m, ?_, ?_, LW.nil ?_⟩⟩)))))⟩⟩))))))) C.f_made.some))
  · intro d hd
    obtain ⟨p, hpm, rfl⟩ := List.mem_map.mp hd
    exact AsW.two 0 1 rfl rfl (by decide) (by decide) (by decide) (by decide) ⟨rfl, IfsW.nil (ifT (EW.tuple (LW.cons (EW.name 0 rfl rfl (LW.cons (EW.bin (EW.name 2 rfl rfl (EW.name 1 rfl rfl (⟨_, BinS.mul (mulOk hm (hp p hpm)), LW.nil (⟨_, .cons (.cons .nil), (show 2 ≤ sizeLine by decide), ⟨_, rfl, rfl⟩⟩)⟩)))))))))⟩
  · refine h64 (Nat.le_trans (List.length_filterMap_le _ _) ?_)
    rw [List.length_map]; omega
  rw [sclF_list]
  refine (made_spec C n (by simpa [scl] using hl)).mono (Nat.le_refl _) ?_ (fun _ x => x)
  rintro _ rfl
  rfl
end Mine
end

section
open PySem PySem.W PyProof.Rows PySem.Calls PyProof
set_option Elab.async false
set_option maxHeartbeats 800000
set_option maxRecDepth 100000
set_option linter.unusedVariables false
namespace Mine
variable {B : Bs}
noncomputable def woF (nm : Str) (d : D) : Option D := (asP d).bind fun p => if p.1 ≠ nm then some (pD p) else none
noncomputable def wo (nm : Str) (ps : List (Str × Int)) : List (Str × Int) := ps.filter fun p => decide (p.1 ≠ nm)
theorem woF_list (nm : Str) (ps : List (Str × Int)) : (ps.map pD).filterMap (woF nm) = (wo nm ps).map pD := by
  induction ps with
  | nil => rfl
  | cons p ps ih =>
    rw [List.map_cons]
    unfold wo
    by_cases h : p.1 = nm
    · rw [List.filterMap_cons_none (show woF nm (pD p) = none by simp [woF, asP_pD, h]), ih, List.filter_cons_of_neg (by simp [h])]; rfl
    · rw [List.filterMap_cons_some (show woF nm (pD p) = some (pD p) by simp [woF, asP_pD, h]), ih, List.filter_cons_of_pos (by simp [h])]; rfl
theorem without_spec (C : Cx B) (n : Nat) {k : Int} {ps : List (Str × Int)} {nm : Str} (hl : ps.length < 64) :
    Spec B "without" NoX (n + 1) [.im (sumD k ps), .im (.str nm)] fun q => q = .im (sumD k (wo nm ps)) := by
  refine Spec.of_body (F := F_without) C.f_without rfl (by decide) rfl ?_
  have hq := C.quiet
  have hlen : ((ps.map pD).filterMap (woF nm)).length ≤ sizeLine := by
    refine h64 (Nat.le_trans (List.length_filterMap_le _ _) ?_)
    rw [List.length_map]; omega
  refine SWs.cons (SW.ret (EW.tuple (LW.cons (EW.sub (EW.name 0 rfl rfl (EW.cint (⟨_, SubS.tup (j := 0) (by decide) (by decide) rfl rfl, LW.cons (EW.bcall rfl C.b_tuple bb_tuple trivial (LW.cons (EW.compV [("pair", .loc), ("name", .cel)] 1 [1] (by decide +kernel) (by decide +kernel) (EW.sub (EW.name 0 rfl rfl (EW.cint (⟨_, SubS.tup (j := 1) (by decide) (by decide) rfl rfl, ⟨_, IterS.tup, woF nm, ?_, hlen, LW.nil (⟨_, BuiS.tupleL hlen, LW.nil (⟨_, .cons (.cons .nil), (show 2 ≤ sizeLine by decide), ?_⟩)⟩)⟩⟩)))))))⟩)))))))
  · intro d hd
    obtain ⟨p, hpm, rfl⟩ := List.mem_map.mp hd
    refine AsW.name 0 rfl (by decide) (by decide) ⟨rfl, IfsW.one (TW.cmp (EW.sub (EW.name 0 rfl rfl (EW.cint (⟨_, SubS.tup (j := 0) (by decide) (by decide) rfl rfl, EW.name 1 rfl rfl (⟨_, CmpS.neS _ _, ?_⟩)⟩)))))⟩
    split
    · rename_i h
      simp only [bne_iff_ne, ne_eq] at h
      refine EW.name 0 rfl rfl (⟨pD p, ?_, rfl⟩)
      simp [woF, asP_pD, h]
    · rename_i h
      simp only [bne_iff_ne, ne_eq, Decidable.not_not] at h
      simp [woF, asP_pD, h]
  · show _ = _
    rw [woF_list]; rfl
theorem put_in_spec (C : Cx B) (n : Nat) {k1 k2 : Int} {p1 p2 : List (Str × Int)} {nm : Str} (h1 : p1.length < 30) (h2 : p2.length < 30) (hs : Bd 400 ((iAt p1 nm).getD 0)) (hk : Bd 400 k2) (hp : ∀ p ∈ p2, Bd 400 p.2) :
    Spec B "put_in" NoX (n + 3) [.im (sumD k1 p1), .im (.str nm), .im (sumD k2 p2)] fun q => q = .im (sumD (k1 + (iAt p1 nm).getD 0 * k2) (madeL (wo nm p1 ++ madeL (scl ((iAt p1 nm).getD 0) p2)))) := by
  refine Spec.of_body (F := F_put_in) C.f_put_in rfl (by decide) rfl ?_
  have hq := C.quiet
  refine SWs.cons (SW.ret (EW.call rfl (LW.cons (EW.call rfl (LW.cons (EW.name 0 rfl rfl (LW.cons (EW.name 1 rfl rfl (LW.nil ?_))))) C.f_without.some)) C.f_added.some))
  refine (without_spec C (n + 1) (by (clear h2; omega))).mono (Nat.le_refl _) ?_ (fun _ x => x)
  rintro _ rfl
  refine LW.cons (EW.call rfl (LW.cons (EW.call rfl (LW.cons (EW.name 0 rfl rfl (LW.cons (EW.name 1 rfl rfl (LW.nil ?_))))) C.f_share.some)) C.f_times.some)
  refine (share_spec C (n + 1)).mono (Nat.le_refl _) ?_ (fun _ x => x)
  rintro _ rfl
  refine LW.cons (EW.name 2 rfl rfl (LW.nil ?_))
  refine (times_spec C n (by (clear h1; omega)) hs hk hp).mono (Nat.le_refl _) ?_ (fun _ x => x)
  rintro _ rfl
  refine LW.nil ?_
  refine (added_spec C n ?_).mono (Nat.le_refl _) ?_ (fun _ x => x)
  · have e1 : (wo nm p1).length ≤ p1.length := List.length_filter_le _ _
    have e2 := made_len (scl ((iAt p1 nm).getD 0) p2)
    have e3 : (scl ((iAt p1 nm).getD 0) p2).length = p2.length := by simp [scl]
    omega
  rintro _ rfl
  rfl
end Mine
end

section
open PySem PySem.W PyProof.Rows PySem.Calls PyProof
set_option Elab.async false
set_option maxHeartbeats 800000
set_option maxRecDepth 100000
set_option linter.unusedVariables false
namespace Mine
variable {B : Bs}
noncomputable def wordTag (w : Str) : Nat := if w = "above" then 0 else if w = "nought" then 1 else if w = "goes" then 2 else if w = "not" then 3 else if w = "and" ∨ w = "or" then 4 else 5
noncomputable def St.tag : St → Nat
  | .above _ _ => 0
  | .nought _ _ => 1
  | .goes _ _ _ => 2
  | .neg _ => 3
  | .conn _ _ => 4
  | .bind _ _ _ => 5
theorem kw_tag (s : St) : wordTag s.kw = s.tag := by
  have h1 : wordTag "above" = 0 := by decide +kernel
  have h2 : wordTag "nought" = 1 := by decide +kernel
  have h3 : wordTag "goes" = 2 := by decide +kernel
  have h4 : wordTag "not" = 3 := by decide +kernel
  have h5 : ∀ a, wordTag (cw a) = 4 := by decide +kernel
  have h6 : ∀ a, wordTag (bw a) = 5 := by decide +kernel
  cases s with
  | above k ps => exact h1
  | nought k ps => exact h2
  | goes m k ps => exact h3
  | neg s => exact h4
  | conn a l => exact h5 a
  | bind e nm s => exact h6 e
theorem d_parts {s t : St} (h : s.d = t.d) : s.kw = t.kw ∧ s.tl = t.tl ∧ s.tag = t.tag := by
  rw [St.d_eq, St.d_eq] at h
  injection h with h
  injection h with h1 h2
  injection h1 with h1
  exact ⟨h1, h2, by rw [← kw_tag, ← kw_tag, h1]⟩
theorem pD_inj : ∀ {l m : List (Str × Int)}, l.map pD = m.map pD → l = m
  | [], [], _ => rfl
  | [], _ :: _, h => by cases h
  | _ :: _, [], h => by cases h
  | p :: l, q :: m, h => by
    injection h with h1 h2
    injection h1 with h1
    injection h1 with h3 h4
    injection h3 with h3
    injection h4 with h4
    injection h4 with h4
    rw [pD_inj h2]
    congr 1
    exact Prod.ext h3 h4
theorem sumD_inj {k k' : Int} {ps ps' : List (Str × Int)} (h : sumD k ps = sumD k' ps') : k = k' ∧ ps = ps' := by
  injection h with h
  injection h with h1 h2
  injection h1 with h1
  injection h2 with h2
  injection h2 with h2
  exact ⟨h1, pD_inj h2⟩
theorem cw_inj : ∀ {a b : Bool}, cw a = cw b → a = b := by decide +kernel
theorem bw_inj : ∀ {a b : Bool}, bw a = bw b → a = b := by decide +kernel
mutual
theorem St.d_inj : ∀ {s t : St}, s.d = t.d → s = t
  | .above k ps, t, h => by
    obtain ⟨h1, h2, h3⟩ := d_parts h
    cases t with
    | above k' ps' => injection h2 with h2; obtain ⟨rfl, rfl⟩ := sumD_inj h2; rfl
    | _ => cases h3
  | .nought k ps, t, h => by
    obtain ⟨h1, h2, h3⟩ := d_parts h
    cases t with
    | nought k' ps' => injection h2 with h2; obtain ⟨rfl, rfl⟩ := sumD_inj h2; rfl
    | _ => cases h3
  | .goes m k ps, t, h => by
    obtain ⟨h1, h2, h3⟩ := d_parts h
    cases t with
    | goes m' k' ps' => injection h2 with h2 h4; injection h2 with h2; injection h4 with h4; obtain ⟨rfl, rfl⟩ := sumD_inj h4; rw [h2]
    | _ => cases h3
  | .neg s, t, h => by
    obtain ⟨h1, h2, h3⟩ := d_parts h
    cases t with
    | neg s' => injection h2 with h2; rw [St.d_inj h2]
    | _ => cases h3
  | .conn a l, t, h => by
    obtain ⟨h1, h2, h3⟩ := d_parts h
    cases t with
    | conn a' l' => injection h2 with h2; injection h2 with h2; rw [Sts.ds_inj h2, cw_inj h1]
    | _ => cases h3
  | .bind e nm s, t, h => by
    obtain ⟨h1, h2, h3⟩ := d_parts h
    cases t with
    | bind e' nm' s' => injection h2 with h2 h4; injection h2 with h2; injection h4 with h4; rw [St.d_inj h4, h2, bw_inj h1]
    | _ => cases h3
theorem Sts.ds_inj : ∀ {l m : Sts}, l.ds = m.ds → l = m
  | .nil, .nil, _ => rfl
  | .nil, .cons _ _, h => by cases h
  | .cons _ _, .nil, h => by cases h
  | .cons s l, .cons t m, h => by
    injection h with h1 h2
    rw [St.d_inj h1, Sts.ds_inj h2]
end
noncomputable def stF (G : St → St) (d : D) : Option D := open Classical in if h : ∃ t : St, t.d = d then some (G h.choose).d else none
theorem stF_d (G : St → St) (t : St) : stF G t.d = some (G t).d := by
  have h : ∃ t' : St, t'.d = t.d := ⟨t, rfl⟩
  unfold stF
  rw [dif_pos h, St.d_inj h.choose_spec]
noncomputable def Sts.map (G : St → St) : Sts → Sts
  | .nil => .nil
  | .cons s l => .cons (G s) (l.map G)
theorem stF_list (G : St → St) : ∀ l : Sts, l.ds.filterMap (stF G) = (l.map G).ds
  | .nil => rfl
  | .cons s l => by rw [Sts.ds, List.filterMap_cons_some (stF_d G s), stF_list G l]; rfl
theorem Sts.mem_ds : ∀ {l : Sts} {d : D} {P : St → Prop}, l.All P → d ∈ l.ds → ∃ t, t.d = d ∧ P t
  | .nil, _, _, _, h => by cases h
  | .cons s l, d, P, ⟨h1, h2⟩, h => by
    rcases List.mem_cons.mp h with rfl | h
    · exact ⟨s, rfl, h1⟩
    · exact Sts.mem_ds h2 h
theorem Sts.map_len (G : St → St) : ∀ l : Sts, (l.map G).len = l.len
  | .nil => rfl
  | .cons s l => by simp [Sts.map, Sts.len, Sts.map_len G l]
end Mine
end

section
open PySem PySem.W PyProof.Rows PySem.Calls PyProof
set_option Elab.async false
set_option maxHeartbeats 800000
set_option maxRecDepth 100000
set_option linter.unusedVariables false
namespace Mine
variable {B : Bs}
theorem mgC (C : Cx B) : B.mg "SomeError" = some (.ref 24) ∧ B.mg "NoValue" = some (.ref 37) ∧ B.mg "NotPlain" = some (.ref 49) ∧ B.mg "NoNote" = some (.ref 61) :=
  ⟨mgOf C.kin B.g (ns24 _).1, mgOf C.kin B.g (ns24 _).2.1, mgOf C.kin B.g (ns24 _).2.2.1, mgOf C.kin B.g (ns24 _).2.2.2⟩
theorem word_ofP (C : Cx B) (n : Nat) : Spec B.loud "_law_word_of" NoX (n + 1) [.ct (.exc "NotPlain")] fun q => q = .im (.str "not plain") := by
  refine Spec.of_body (F := F_word_of) C.f_word_of.loud rfl (by decide) rfl ?_
  have m := mgC C
  have X0 : (kf B.w.params).In B.loud.hB := C.kin
  refine SWs.cons (SW.assign 1 rfl (by decide) (by decide) (EW.list (LW.nil (⟨_, .nil, (show 0 ≤ sizeLine by decide), ⟨_, rfl, ?_⟩⟩))))
  refine SWs.cons (SW.ife (TW.val (EW.isiC rfl C.b_isinstance rfl (C := 37) m.2.1 (EW.name 0 rfl rfl (⟨_, IsiC.not X0 m.2.2.1 (xc _).2.2.1 (xn _).2.2.2.1, ⟨_, TruS.bool _, ifF (SWs.nil ?_)⟩⟩)))))
  refine SWs.cons (SW.ife (TW.val (EW.isiC rfl C.b_isinstance rfl (C := 49) m.2.2.1 (EW.name 0 rfl rfl (⟨_, IsiC.self X0 m.2.2.1, ⟨_, TruS.bool _, ifT ?_⟩⟩)))))
  refine SWs.cons (SW.append 1 rfl rfl (EW.cstr (⟨_, rfl, (show 0 ≤ sizeLine by decide), SWs.nil ?_⟩)))
  refine SWs.cons (SW.ife (TW.val (EW.isiC rfl C.b_isinstance rfl (C := 61) m.2.2.2 (EW.name 0 rfl rfl (⟨_, IsiC.not X0 m.2.2.1 (xc _).2.2.1 (xn _).2.2.2.2.1, ⟨_, TruS.bool _, ifF (SWs.nil ?_)⟩⟩)))))
  refine SWs.cons (SW.ife (TW.not (TW.val (EW.isi rfl C.b_isinstance rfl C.b_ValueError bb_ValueError (EW.name 0 rfl rfl (⟨_, IsiS.excV X0 m.2.2.1 (xc _).2.2.1, ⟨_, TruS.bool _, ifF (SWs.nil ?_)⟩⟩))))))
  exact SWs.cons (SW.ret (EW.join (EW.cstr ⟨_, rfl, EW.name 1 rfl rfl ⟨_, ["not plain"], rfl, by decide +kernel, rfl⟩⟩)))
end Mine
end

section
open PySem PySem.W PyProof.Rows PySem.Calls PyProof PySem.Spec
set_option Elab.async false
set_option maxRecDepth 100000
set_option linter.unusedVariables false
namespace Mine
section
variable {prog : Program} {w : World} {A : Around} {E : Value → Shared → Prop} {s : Shared}
theorem appliedInit {sl : Addr} {n : Nat} {u : Tok} {Q : Int × Int × Nat → Shared → Prop} (hs : s.heap.IsSliceOf sl .none (.int (-1) u) .none) (h : Q (0, 1, n) s) :
    wpAny (model prog w) A (Builtin.Slice.sliceApplied (.ref sl) (pure ((n + 1 : Nat) : Int))) Q E s := by
  obtain ⟨os, hos, hcs, hds⟩ := id hs
  unfold Builtin.Slice.sliceApplied Builtin.Slice.sliceFields
  refine wpAny_bind (wpAny_bind (wpAny_field hos hds (x := .none) rfl (wpAny_bind (wpAny_field hos hds (x := .int (-1) u) rfl (wpAny_bind (wpAny_field hos hds (x := .none) rfl (wpAny_pure ?_)))))))
  refine wpAny_bind (slicePart_none ?_)
  show wpAny _ _ (if ((1 : Int) == 0) = true then _ else _) _ _ s
  rw [if_neg (by decide)]
  refine wpAny_bind (slicePart_none (wpAny_bind (slicePart_int (wpAny_bind (wpAny_pure ?_)))))
  have e1 : Builtin.Slice.sliceAdjust none (some (-1)) 1 ((n + 1 : Nat) : Int) = (0, (n : Int)) := by
    unfold Builtin.Slice.sliceAdjust
    simp only [show ¬ ((1 : Int) < 0) by omega, show ((-1 : Int) < 0) by omega, if_true, if_false]
    congr 1
    omega
  have e2 : Builtin.Slice.slicePlaces 0 (n : Int) 1 = n := by
    unfold Builtin.Slice.slicePlaces
    simp only [show (1 : Int) > 0 by omega, if_true, Int.ediv_one]
    split <;> omega
  show wpAny _ _ (match Builtin.Slice.sliceAdjust none (some (-1)) 1 ((n + 1 : Nat) : Int) with | (lo, hi) => pure (lo, (1 : Int), Builtin.Slice.slicePlaces lo hi 1)) _ _ s
  rw [e1]
  show wpAny _ _ (pure ((0 : Int), (1 : Int), Builtin.Slice.slicePlaces 0 (n : Int) 1)) _ _ s
  rw [e2]
  exact wpAny_pure h
theorem pickInit (xs : Array Value) (n : Nat) (hn : n ≤ xs.size) : ((List.range n).filterMap fun (k : Nat) => xs[((0 : Int) + (k : Int) * 1).toNat]?).toArray = (xs.toList.take n).toArray := by
  have e : (fun (k : Nat) => xs[((0 : Int) + (k : Int) * 1).toNat]?) = fun k => xs[k]? := by
    funext k
    have : ((0 : Int) + (k : Int) * 1).toNat = k := by omega
    rw [this]
  rw [e]
  congr 1
  induction n with
  | zero => simp
  | succ n ih =>
    rw [List.range_succ, List.filterMap_append, ih (by omega), List.take_add_one, Array.getElem?_toList]
    congr 1
theorem getItemInit {t sl : Addr} {items : Array Value} {n : Nat} {u : Tok} {Q : Value → Shared → Prop} (ht : IsTup s.heap t items) (hs : s.heap.IsSliceOf sl .none (.int (-1) u) .none) (hn : items.size = n + 1)
    (h : Q (.ref s.heap.objs.size) { s with heap := s.heap.push { cls := .type "tuple", data := .seq (items.toList.take n).toArray } })
    (hsz : items.size ≤ sizeLine) : wpAny (model prog w) A (getItem (.ref t) (.ref sl)) Q E s := by
  have htake : sizeOk (.seq (items.toList.take n).toArray) := by
    show (items.toList.take n).toArray.size ≤ sizeLine
    rw [List.size_toArray, List.length_take, Array.length_toList]
    omega
  obtain ⟨os, hos, hcs, hds⟩ := id hs
  have hTs : s.TypeIs (.ref sl) "slice" := ⟨os, hos, hcs⟩
  unfold getItem
  try with_reducible refine wpAny_holding ?_
  first | refine wpAny_bind (wpAny_pure ?_) | skip
  refine wpAny_bind (wpAny_sequenceKey ht.typeIs (by decide) ?_)
  refine wpAny_bind (wpAny_callSpecial?_slot (name := Str.ofString "__getitem__") ht.typeIs slot_tuple_getitem
    (wpAny_call_entry slot_tuple_getitem ht.typeIs entry_tuple_getitem ?_ (args_tuple_getitem _ _)))
  show wpAny _ _ (Builtin.Tuple.tupleItemsOf (.ref t) >>= _) _ _ s
  refine wpAny_bind (tupleItemsOf_ ht ?_)
  refine wpAny_bind (wpAny_typeOf hTs ?_)
  rw [if_pos (by decide)]
  rw [hn]
  refine wpAny_bind (appliedInit hs ?_)
  show wpAny _ _ (if ((0 : Int) == 0 && (1 : Int) == 1 && n == n + 1) = true then _ else _) _ _ s
  rw [if_neg (by simp), pickInit items n (by omega)]
  first
    | exact wpAny_bind (m := Builtin.Tuple.tupleExact _) (wpAny_newObj_type (wpAny_pure ⟨_, rfl, wpAny_pure h⟩) htake)
    | exact wpAny_bind (m := Builtin.Tuple.tupleExact _) (wpAny_newObj_type (wpAny_bind (wpAny_pure (wpAny_pure ⟨_, rfl, wpAny_pure h⟩))) htake)
    | exact wpAny_bind (wpAny_bind (m := Builtin.Tuple.tupleExact _) (wpAny_newObj_type (wpAny_pure (wpAny_pure ⟨_, rfl, wpAny_pure h⟩)) htake))
    | exact wpAny_bind (wpAny_bind (m := Builtin.Tuple.tupleExact _) (wpAny_newObj_type (wpAny_pure ⟨_, rfl, wpAny_pure h⟩) htake))
end
section
variable {B : Bs} {F : Fi} {X : Str → Prop} {n : Nat} {ρ : List (Option Sl)}
theorem SlcS.init {l : List D} {d : D} (h : l.length + 1 ≤ sizeLine) : SlcS B n (.im (.tup (l ++ [d]))) none (some (-1)) (.im (.tup l)) := fun env oa A s0 s vx vl vu value slice E b a x pl pu hs => by
  obtain ⟨a, vs, rfl, h1, h2⟩ := x.isTup
  cases pl
  cases pu
  rename_i u
  have e : vs.size = l.length + 1 := by rw [← Array.length_toList, h2.length]; simp
  have h1' : IsTup (s.heap.push { cls := .type "slice", data := .fields #[.none, .int (-1) u, .none] }) a vs := h1.keeps fun _ _ e => Heap.get?_push_of_some _ e
  have k1 : Kp B s { s with heap := s.heap.push { cls := .type "slice", data := .fields #[.none, .int (-1) u, .none] } } := push_kp _
  refine tail_any (s := { s with heap := s.heap.push { cls := .type "slice", data := .fields #[.none, .int (-1) u, .none] } }) h1'.typeIs slot_tuple_getitem.lookup (getItemInit h1' (Heap.IsSliceOf.new ..) e ?_ (by rw [e]; exact h)) (hs _)
  have g : Grow s.heap ((s.heap.push { cls := .type "slice", data := .fields #[.none, .int (-1) u, .none] }).push { cls := .type "tuple", data := .seq (vs.toList.take l.length).toArray }) := (k1.trans (push_kp (B := B) _ (t := s.toks))).tups
  have h3 := (h2.take l.length).grow g
  rw [List.take_left'  rfl] at h3
  exact ⟨k1.trans (push_kp _), Im.tup (Heap.get?_push_size _ rfl) rfl rfl (by simpa using h3)⟩
end
end Mine
end

section
open PySem PySem.W PyProof.Rows PySem.Calls PyProof
set_option Elab.async false
set_option maxHeartbeats 800000
set_option maxRecDepth 100000
set_option linter.unusedVariables false
namespace Mine
theorem foldS_nd : ∀ (l a : List Str), a.Nodup → (l.foldl stepS a).Nodup
  | [], a, h => h
  | k :: l, a, h => by
    rw [List.foldl_cons]
    refine foldS_nd l _ ?_
    unfold stepS
    split
    · exact h
    · rename_i hk
      exact List.nodup_append.mpr ⟨h, by simp, fun x hx y hy => by simp at hy; subst hy; exact fun e => hk (e ▸ hx)⟩
theorem metS_nd (l : List Str) : (metS l).Nodup := foldS_nd l [] .nil
theorem foldS_mem (x : Str) : ∀ (l a : List Str), x ∈ l.foldl stepS a ↔ x ∈ a ∨ x ∈ l
  | [], a => by simp
  | k :: l, a => by
    rw [List.foldl_cons, foldS_mem x l]
    unfold stepS
    split
    · rename_i hk
      constructor
      · rintro (h | h)
        · exact .inl h
        · exact .inr (.tail _ h)
      · rintro (h | h)
        · exact .inl h
        · rcases List.mem_cons.mp h with rfl | h
          · exact .inl hk
          · exact .inr h
    · simp [or_assoc]
theorem metS_mem (x : Str) (l : List Str) : x ∈ metS l ↔ x ∈ l := by
  unfold metS; rw [foldS_mem]; simp
theorem iAt_sumOf : ∀ {ps : List (Str × Int)}, (ps.map (·.1)).Nodup → ∀ k, (iAt ps k).getD 0 = sumOf k ps
  | [], _, k => rfl
  | p :: ps, nd, k => by
    have nd' : p.1 ∉ ps.map (·.1) ∧ (ps.map (·.1)).Nodup := by simpa using nd
    rw [iAt_cons, sumOf_cons]
    by_cases h : p.1 = k
    · subst h; rw [if_pos rfl, if_pos rfl, sumOf_none _ _ nd'.1]; simp
    · rw [if_neg h, if_neg h, iAt_sumOf nd'.2 k]; simp
theorem sumOf_app (k : Str) : ∀ (l m : List (Str × Int)), sumOf k (l ++ m) = sumOf k l + sumOf k m
  | [], m => by simp [sumOf]
  | p :: l, m => by rw [List.cons_append, sumOf_cons, sumOf_cons, sumOf_app k l m]; omega
theorem sumOf_wo (k nm : Str) : ∀ ps : List (Str × Int), sumOf k (wo nm ps) = if k = nm then 0 else sumOf k ps
  | [] => by simp [wo, sumOf]
  | p :: ps => by
    have ih := sumOf_wo k nm ps
    by_cases h : p.1 = nm
    · have e : wo nm (p :: ps) = wo nm ps := by unfold wo; rw [List.filter_cons_of_neg (by simp [h])]
      rw [e, ih, sumOf_cons]
      split
      · rfl
      · rename_i hk; rw [if_neg (by rw [h]; exact fun e => hk e.symm)]; omega
    · have e : wo nm (p :: ps) = p :: wo nm ps := by unfold wo; rw [List.filter_cons_of_pos (by simp [h])]
      rw [e, sumOf_cons, ih, sumOf_cons]
      by_cases hk : k = nm
      · rw [if_pos hk, if_pos hk, if_neg (by rw [hk]; exact h)]; omega
      · rw [if_neg hk, if_neg hk]
theorem sumOf_scl (k : Str) (m : Int) : ∀ ps : List (Str × Int), sumOf k (scl m ps) = m * sumOf k ps
  | [] => by simp [scl, sumOf]
  | p :: ps => by
    have e : scl m (p :: ps) = (p.1, m * p.2) :: scl m ps := rfl
    rw [e, sumOf_cons, sumOf_scl k m ps, sumOf_cons, Int.mul_add]
    split <;> simp
theorem made_keys (ps : List (Str × Int)) : (madeL ps).map (·.1) = (srt ((tally ps).map (·.1))).filter fun k => decide (sumOf k ps ≠ 0) := by
  unfold madeL; rw [List.map_map]; simp [Function.comp_def]
theorem made_nd (ps : List (Str × Int)) : ((madeL ps).map (·.1)).Nodup := by
  rw [made_keys]
  exact ((srt_perm _).nodup_iff.mpr (tally_nodup ps)).sublist List.filter_sublist
theorem made_mem {ps : List (Str × Int)} {p : Str × Int} (h : p ∈ madeL ps) : p.1 ∈ ps.map (·.1) := by
  have : p.1 ∈ (madeL ps).map (·.1) := List.mem_map_of_mem h
  rw [made_keys] at this
  exact (tally_mem ps p.1).mp ((srt_perm _).mem_iff.mp (List.mem_filter.mp this).1)
theorem sumOf_made (k : Str) (ps : List (Str × Int)) : sumOf k (madeL ps) = sumOf k ps := by
  rw [← iAt_sumOf (made_nd ps) k]
  by_cases h : k ∈ (tally ps).map (·.1)
  · exact share_due (names := (tally ps).map (·.1)) (ps := ps) (tally_nodup ps) h
  · have h' : k ∉ ps.map (·.1) := fun q => h ((tally_mem ps k).mpr q)
    rw [sumOf_none _ _ h', iAt_none]
    · rfl
    · intro q
      rw [made_keys] at q
      exact h ((srt_perm _).mem_iff.mp (List.mem_filter.mp q).1)
noncomputable def own (nm : Str) (p1 p2 : List (Str × Int)) (k : Str) : Int := (if k = nm then 0 else sumOf k p1) + sumOf nm p1 * sumOf k p2
noncomputable def putN (p1 p2 : List (Str × Int)) : List Str := metS (p1.map (·.1) ++ p2.map (·.1))
noncomputable def putL (nm : Str) (p1 p2 : List (Str × Int)) : List (Str × Int) := ((srt (putN p1 p2)).filter fun k => decide (own nm p1 p2 k ≠ 0)).map fun k => (k, own nm p1 p2 k)
theorem put_eq {nm : Str} {p1 p2 : List (Str × Int)} (nd : (p1.map (·.1)).Nodup) : madeL (wo nm p1 ++ madeL (scl ((iAt p1 nm).getD 0) p2)) = putL nm p1 p2 := by
  rw [iAt_sumOf nd]
  have e : ∀ k, sumOf k (wo nm p1 ++ madeL (scl (sumOf nm p1) p2)) = own nm p1 p2 k := fun k => by
    rw [sumOf_app, sumOf_wo, sumOf_made, sumOf_scl]; rfl
  rw [made_eq_due (names := putN p1 p2) (metS_nd _) fun p hp => ?_]
  · unfold dueL putL
    simp only [e]
  · unfold putN
    rw [metS_mem]
    rcases List.mem_append.mp hp with h | h
    · exact List.mem_append_left _ (List.mem_map_of_mem (List.mem_filter.mp h).1)
    · have := made_mem h
      rw [show (scl (sumOf nm p1) p2).map (·.1) = p2.map (·.1) by simp [scl, Function.comp_def]] at this
      exact List.mem_append_right _ this
theorem putN_len (p1 p2 : List (Str × Int)) : (putN p1 p2).length ≤ p1.length + p2.length := by
  have := metS_len (p1.map (·.1) ++ p2.map (·.1))
  simpa [putN] using this
theorem putL_len (nm : Str) (p1 p2 : List (Str × Int)) : (putL nm p1 p2).length ≤ p1.length + p2.length := by
  unfold putL
  rw [List.length_map]
  refine Nat.le_trans (List.length_filter_le _ _) ?_
  rw [(srt_perm _).length_eq]; exact putN_len p1 p2
mutual
noncomputable def St.mp (f : Int → List (Str × Int) → Int × List (Str × Int)) : St → St
  | .above k ps => .above (f k ps).1 (f k ps).2
  | .nought k ps => .nought (f k ps).1 (f k ps).2
  | .goes m k ps => .goes m (f k ps).1 (f k ps).2
  | .neg s => .neg (s.mp f)
  | .conn a l => .conn a (l.mp f)
  | .bind e nm s => .bind e nm (s.mp f)
noncomputable def Sts.mp (f : Int → List (Str × Int) → Int × List (Str × Int)) : Sts → Sts
  | .nil => .nil
  | .cons s l => .cons (s.mp f) (l.mp f)
end
mutual
theorem St.mp_id : ∀ s : St, s.mp (fun k ps => (k, ps)) = s
  | .above k ps => rfl
  | .nought k ps => rfl
  | .goes m k ps => rfl
  | .neg s => by rw [St.mp, s.mp_id]
  | .conn a l => by rw [St.mp, l.mp_id]
  | .bind e nm s => by rw [St.mp, s.mp_id]
theorem Sts.mp_id : ∀ l : Sts, l.mp (fun k ps => (k, ps)) = l
  | .nil => rfl
  | .cons s l => by rw [Sts.mp, s.mp_id, l.mp_id]
end
theorem mp_map (f : Int → List (Str × Int) → Int × List (Str × Int)) : ∀ l : Sts, l.mp f = l.map fun s => s.mp f
  | .nil => rfl
  | .cons s l => by rw [Sts.mp, mp_map f l]; rfl
theorem Dg.mono {m m' : Nat} {d : D} (h : Dg m d) (hm : m ≤ m') : Dg m' d := by
  induction h generalizing m' with
  | none => exact .none
  | tru => exact .tru
  | int => exact .int
  | str => exact .str
  | @tup m l hl _ ih =>
    obtain ⟨q, rfl⟩ : ∃ q, m' = q + 1 := ⟨m' - 1, by omega⟩
    exact .tup hl fun d hd => ih d hd (by omega)
theorem sumD_dg {k : Int} {ps : List (Str × Int)} (h : ps.length < 100) : Dg 3 (sumD k ps) := by
  refine .tup (by simp) fun d hd => ?_
  rcases List.mem_cons.mp hd with rfl | hd
  · exact .int
  · rw [List.mem_singleton] at hd; subst hd
    refine .tup (by rw [List.length_map]; omega) fun d hd => ?_
    obtain ⟨p, _, rfl⟩ := List.mem_map.mp hd
    refine .tup (by simp) fun d hd => ?_
    rcases List.mem_cons.mp hd with rfl | hd
    · exact .str
    · rw [List.mem_singleton] at hd; subst hd; exact .int
theorem ds_len : ∀ l : Sts, l.ds.length = l.len
  | .nil => rfl
  | .cons s l => by simp [Sts.ds, Sts.len, ds_len l]
mutual
theorem St.dg {ss : List Str} {M : Nat} {f : Int → List (Str × Int) → Int × List (Str × Int)} (hf : ∀ k ps, GS ss M k ps → (f k ps).2.length < 100) : ∀ s : St, s.Gd ss M → Dg (2 * s.dp + 4) (s.mp f).d
  | .above k ps, g => .tup (by simp) fun d hd => by
    rcases List.mem_cons.mp hd with rfl | hd
    · exact .str
    · rw [List.mem_singleton] at hd; subst hd; exact sumD_dg (hf k ps g)
  | .nought k ps, g => .tup (by simp) fun d hd => by
    rcases List.mem_cons.mp hd with rfl | hd
    · exact .str
    · rw [List.mem_singleton] at hd; subst hd; exact sumD_dg (hf k ps g)
  | .goes m k ps, g => .tup (by simp) fun d hd => by
    rcases List.mem_cons.mp hd with rfl | hd
    · exact .str
    · rcases List.mem_cons.mp hd with rfl | hd
      · exact .int
      · rw [List.mem_singleton] at hd; subst hd; exact sumD_dg (hf k ps g.2)
  | .neg s, g => by
    have ih := s.dg hf g
    refine Dg.mono (m := 2 * s.dp + 4 + 1) (.tup (by simp) fun d hd => ?_) (by show _ ≤ 2 * (s.dp + 1) + 4; omega)
    rcases List.mem_cons.mp hd with rfl | hd
    · exact .str
    · rw [List.mem_singleton] at hd; subst hd; exact ih
  | .conn a l, g => by
    have ih := l.dg hf g.2
    refine Dg.mono (m := 2 * l.dp + 4 + 1 + 1) (.tup (by simp) fun d hd => ?_) (by show _ ≤ 2 * (l.dp + 1) + 4; omega)
    rcases List.mem_cons.mp hd with rfl | hd
    · exact .str
    · rw [List.mem_singleton] at hd; subst hd
      refine .tup ?_ ih
      rw [ds_len, mp_map, Sts.map_len]; have := g.1; omega
  | .bind e nm s, g => by
    have ih := s.dg hf g.2
    refine Dg.mono (m := 2 * s.dp + 4 + 1) (.tup (by simp) fun d hd => ?_) (by show _ ≤ 2 * (s.dp + 1) + 4; omega)
    rcases List.mem_cons.mp hd with rfl | hd
    · exact .str
    · rcases List.mem_cons.mp hd with rfl | hd
      · exact .str
      · rw [List.mem_singleton] at hd; subst hd; exact ih
theorem Sts.dg {ss : List Str} {M : Nat} {f : Int → List (Str × Int) → Int × List (Str × Int)} (hf : ∀ k ps, GS ss M k ps → (f k ps).2.length < 100) : ∀ l : Sts, l.Gd ss M → ∀ d ∈ (l.mp f).ds, Dg (2 * l.dp + 4) d
  | .nil, _, d, hd => by cases hd
  | .cons s l, g, d, hd => by
    have e : (Sts.cons s l).dp = max s.dp l.dp := rfl
    rcases List.mem_cons.mp hd with rfl | hd
    · exact (s.dg hf g.1).mono (by rw [e]; omega)
    · exact (l.dg hf g.2 d hd).mono (by rw [e]; omega)
end
end Mine
end

section
open PySem PySem.W PyProof.Rows PySem.Calls PyProof
set_option Elab.async false
set_option maxHeartbeats 1600000
set_option maxRecDepth 100000
set_option linter.unusedVariables false
namespace Mine
variable {B : Bs}
noncomputable def byF (nm : Str) (d : D) : Option D := (asP d).bind fun p => if p.1 = nm then some (.int p.2) else none
theorem byF_list (nm : Str) : ∀ ps : List (Str × Int), (ps.map pD).filterMap (byF nm) = ((ps.filter fun p => p.1 = nm).map (·.2)).map D.int
  | [] => rfl
  | p :: ps => by
    rw [List.map_cons]
    by_cases h : p.1 = nm
    · rw [List.filterMap_cons_some (show byF nm (pD p) = some (.int p.2) by simp [byF, asP_pD, h]), byF_list nm ps, List.filter_cons_of_pos (by simp [h])]; rfl
    · rw [List.filterMap_cons_none (show byF nm (pD p) = none by simp [byF, asP_pD, h]), byF_list nm ps, List.filter_cons_of_neg (by simp [h])]
noncomputable def nmF (d : D) : Option D := (asP d).map fun p => .str p.1
theorem nmF_list : ∀ ps : List (Str × Int), (ps.map pD).filterMap nmF = (ps.map (·.1)).map D.str
  | [] => rfl
  | p :: ps => by rw [List.map_cons, List.filterMap_cons_some (show nmF (pD p) = some (.str p.1) by simp [nmF, asP_pD]), nmF_list ps]; rfl
noncomputable def ownF (each nm : Str) (d : D) : Option D := if each = nm then none else byF each d
theorem ownF_list (each nm : Str) (ps : List (Str × Int)) : (ps.map pD).filterMap (ownF each nm) = (if each = nm then [] else (ps.filter fun p => p.1 = each).map (·.2)).map D.int := by
  by_cases h : each = nm
  · have : ownF each nm = fun _ => none := by funext d; unfold ownF; rw [if_pos h]
    rw [this, if_pos h]; simp
  · have : ownF each nm = byF each := by funext d; unfold ownF; rw [if_neg h]
    rw [this, if_neg h, byF_list]
theorem fl_len {F : D → Option D} {ps : List (Str × Int)} (h : ps.length ≤ 8) : ((ps.map pD).filterMap F).length ≤ sizeLine := by
  refine h64 (Nat.le_trans (List.length_filterMap_le _ _) ?_)
  rw [List.length_map]; omega
theorem sum_put_spec (C : Cx B) (n : Nat) {k1 k2 : Int} {p1 p2 : List (Str × Int)} {nm : Str} (h1 : p1.length ≤ 8) (h2 : p2.length ≤ 8) (hb : Bd 400 (sumOf nm p1)) (hk : Bd 400 k2) (hs : ∀ k, Bd 400 (sumOf k p2)) :
    Spec B "_law_sum_put" NoX (n + 1) [.im (sumD k1 p1), .im (.str nm), .im (sumD k2 p2)] fun q => q = .im (sumD (k1 + sumOf nm p1 * k2) (putL nm p1 p2)) := by
  refine Spec.of_body (F := F_sum_put) C.f_sum_put rfl (by decide) rfl ?_
  have hq := C.quiet
  refine SWs.cons (SW.assign 3 rfl (by decide) (by decide) (EW.bcall rfl C.b_sum bb_sum trivial (LW.cons (EW.compV [("_law_pair", .loc), ("_law_name", .cel)] 1 [1] (by decide +kernel) (by decide +kernel) (EW.sub (EW.name 0 rfl rfl (EW.cint (⟨_, SubS.tup (j := 1) (by decide) (by decide) rfl rfl, ⟨_, IterS.tup, byF nm, ?_, fl_len h1, ?_⟩⟩))))))))
  · intro d hd
    obtain ⟨p, hpm, rfl⟩ := List.mem_map.mp hd
    refine AsW.name 0 rfl (by decide) (by decide) ⟨rfl, IfsW.one (TW.cmp (EW.sub (EW.name 0 rfl rfl (EW.cint (⟨_, SubS.tup (j := 0) (by decide) (by decide) rfl rfl, EW.name 1 rfl rfl (⟨_, CmpS.eqS _ _, ?_⟩)⟩)))))⟩
    split
    · rename_i h
      have h : p.1 = nm := by simpa using h
      exact EW.sub (EW.name 0 rfl rfl (EW.cint (⟨_, SubS.tup (j := 1) (by decide) (by decide) rfl rfl, ⟨_, by simp [byF, asP_pD, h], rfl⟩⟩)))
    · rename_i h
      have h : ¬ p.1 = nm := by simpa using h
      simp [byF, asP_pD, h]
  rw [byF_list]
  refine LW.nil (⟨_, BuiS.sum, ⟨_, rfl, ?_⟩⟩)
  show SWs B F_sum_put NoX n [_, _, _, some (.im (.int (sumOf nm p1))), _, _, _, _] _ _
  have hl : ((p1.map (·.1)).map D.str).length + ((p2.map (·.1)).map D.str).length ≤ sizeLine := h64 (by simp; omega)
  refine SWs.cons (SW.assign 4 rfl (by decide) (by decide) (EW.sortedSet rfl C.b_sorted rfl C.b_set hq (LW.cons (EW.bin (EW.compV [("_law_pair", .loc)] 1 [] (by decide +kernel) (by decide +kernel) (EW.sub (EW.name 0 rfl rfl (EW.cint (⟨_, SubS.tup (j := 1) (by decide) (by decide) rfl rfl, ⟨_, IterS.tup, nmF, ?_, fl_len h1, EW.compV [("_law_pair", .loc)] 1 [] (by decide +kernel) (by decide +kernel) (EW.sub (EW.name 2 rfl rfl (EW.cint (⟨_, SubS.tup (j := 1) (by decide) (by decide) rfl rfl, ⟨_, IterS.tup, nmF, ?_, fl_len h2, ?_⟩⟩))))⟩⟩)))))))))
  · intro d hd
    obtain ⟨p, hpm, rfl⟩ := List.mem_map.mp hd
    exact AsW.name 0 rfl (by decide) (by decide) ⟨rfl, IfsW.nil (ifT (EW.sub (EW.name 0 rfl rfl (EW.cint (⟨_, SubS.tup (j := 0) (by decide) (by decide) rfl rfl, ⟨_, rfl, rfl⟩⟩)))))⟩
  · intro d hd
    obtain ⟨p, hpm, rfl⟩ := List.mem_map.mp hd
    exact AsW.name 0 rfl (by decide) (by decide) ⟨rfl, IfsW.nil (ifT (EW.sub (EW.name 0 rfl rfl (EW.cint (⟨_, SubS.tup (j := 0) (by decide) (by decide) rfl rfl, ⟨_, rfl, rfl⟩⟩)))))⟩
  rw [nmF_list, nmF_list]
  refine ⟨_, BinS.addL hl, LW.nil ⟨_, p1.map (·.1) ++ p2.map (·.1), by rw [List.map_append], ?_, ?_, ⟨_, rfl, ?_⟩⟩⟩
  · unfold scanBound; simp; omega
  · have := putN_len p1 p2; unfold putN at this; omega
  have hN : (srt (putN p1 p2)).length ≤ 16 := by rw [(srt_perm _).length_eq]; have := putN_len p1 p2; omega
  refine SWs.freeze 4 rfl ?_
  refine SWs.cons (SW.assign 5 rfl (by decide) (by decide) (EW.list (LW.nil (⟨_, .nil, (show 0 ≤ sizeLine by decide), ⟨_, rfl, ?_⟩⟩))))
  refine SWs.cons (SW.for_ (EW.name 4 rfl rfl (⟨_, IterS.list (fun i q => by cases q),
    (fun rest ρ' => ∃ (r : List Str) (ps : List (Str × Int)) (x y : Option Sl), rest = r.map .str ∧ ps ++ (r.filter fun k => decide (own nm p1 p2 k ≠ 0)).map (fun k => (k, own nm p1 p2 k)) = putL nm p1 p2 ∧ ps.length + r.length ≤ 16 ∧
      ρ' = [some (.im (sumD k1 p1)), some (.im (.str nm)), some (.im (sumD k2 p2)), some (.im (.int (sumOf nm p1))), some (.fz (.lst ((srt (putN p1 p2)).map .str))), some (.own (.lst (ps.map pD))), x, y]), ?_, ?_, ?_⟩)))
  · exact ⟨srt (putN p1 p2), [], none, none, rfl, rfl, by simpa using hN, rfl⟩
  · rintro d rest ρ' ⟨r, ps, x, y, e1, e2, e3, rfl⟩
    cases r with
    | nil => cases e1
    | cons each r =>
      cases e1
      rw [List.length_cons] at e3
      refine AsW.name 6 rfl (by decide) (by decide) ?_
      refine SWs.cons (SW.assign 7 rfl (by decide) (by decide) (EW.bcall rfl C.b_sum bb_sum trivial (LW.cons (EW.compV [("_law_pair", .loc), ("_law_each", .cel), ("_law_name", .cel)] 1 [6, 1] (by decide +kernel) (by decide +kernel) (EW.sub (EW.name 0 rfl rfl (EW.cint (⟨_, SubS.tup (j := 1) (by decide) (by decide) rfl rfl, ⟨_, IterS.tup, ownF each nm, ?_, fl_len h1, ?_⟩⟩))))))))
      · intro d hd
        obtain ⟨p, hpm, rfl⟩ := List.mem_map.mp hd
        refine AsW.name 0 rfl (by decide) (by decide) ⟨rfl, IfsW.one (TW.bool (AW.andCons (TW.cmp (EW.sub (EW.name 0 rfl rfl (EW.cint (⟨_, SubS.tup (j := 0) (by decide) (by decide) rfl rfl, EW.name 1 rfl rfl (⟨_, CmpS.eqS _ _, ?_⟩)⟩)))))))⟩
        split
        · rename_i h
          have h : p.1 = each := by simpa using h
          refine AW.andCons (TW.cmp (EW.name 1 rfl rfl (EW.name 2 rfl rfl (⟨_, CmpS.neS _ _, ?_⟩))))
          split
          · rename_i h'
            have h' : ¬ each = nm := by simpa using h'
            refine AW.andNil (ifT ?_)
            exact EW.sub (EW.name 0 rfl rfl (EW.cint (⟨_, SubS.tup (j := 1) (by decide) (by decide) rfl rfl, ⟨_, by simp [ownF, byF, asP_pD, h, h'], rfl⟩⟩)))
          · rename_i h'
            have h' : each = nm := by simpa using h'
            exact ifF (by simp [ownF, h'])
        · rename_i h
          have h : ¬ p.1 = each := by simpa using h
          exact ifF (by simp [ownF, byF, asP_pD, h])
      rw [ownF_list]
      refine LW.nil (⟨_, BuiS.sum, ⟨_, rfl, ?_⟩⟩)
      refine SWs.cons (SW.assign 7 rfl (by decide) (by decide) (EW.bin (EW.name 7 rfl rfl (EW.bin (EW.name 3 rfl rfl (EW.bcall rfl C.b_sum bb_sum trivial (LW.cons (EW.compV [("_law_pair", .loc), ("_law_each", .cel)] 1 [6] (by decide +kernel) (by decide +kernel) (EW.sub (EW.name 2 rfl rfl (EW.cint (⟨_, SubS.tup (j := 1) (by decide) (by decide) rfl rfl, ⟨_, IterS.tup, byF each, ?_, fl_len h2, ?_⟩⟩))))))))))))
      · intro d hd
        obtain ⟨p, hpm, rfl⟩ := List.mem_map.mp hd
        refine AsW.name 0 rfl (by decide) (by decide) ⟨rfl, IfsW.one (TW.cmp (EW.sub (EW.name 0 rfl rfl (EW.cint (⟨_, SubS.tup (j := 0) (by decide) (by decide) rfl rfl, EW.name 1 rfl rfl (⟨_, CmpS.eqS _ _, ?_⟩)⟩)))))⟩
        split
        · rename_i h
          have h : p.1 = each := by simpa using h
          exact EW.sub (EW.name 0 rfl rfl (EW.cint (⟨_, SubS.tup (j := 1) (by decide) (by decide) rfl rfl, ⟨_, by simp [byF, asP_pD, h], rfl⟩⟩)))
        · rename_i h
          have h : ¬ p.1 = each := by simpa using h
          simp [byF, asP_pD, h]
      rw [byF_list]
      refine LW.nil (⟨_, BuiS.sum, ⟨_, BinS.mul (mulOk hb (hs each)), ⟨_, BinS.add _ _, ⟨_, rfl, ?_⟩⟩⟩⟩)
      have eo : (if each = nm then [] else (p1.filter fun p => p.1 = each).map (·.2)).sum + sumOf nm p1 * ((p2.filter fun p => p.1 = each).map (·.2)).sum = own nm p1 p2 each := by
        unfold own
        congr 1
        split <;> rfl
      rw [eo]
      refine SWs.cons (SW.ife (TW.cmp (EW.name 7 rfl rfl (EW.cint (⟨_, CmpS.neI _ _, ?_⟩)))))
      split
      · rename_i h
        have h : own nm p1 p2 each ≠ 0 := by simpa using h
        refine SWs.cons (SW.append 5 rfl rfl (EW.tuple (LW.cons (EW.name 6 rfl rfl (LW.cons (EW.name 7 rfl rfl (LW.nil (⟨_, .cons (.cons .nil), (show 2 ≤ sizeLine by decide), ⟨_, rfl, ?_, ?_⟩⟩))))))))
        · rw [List.length_map]; exact h64 (by omega)
        refine SWs.nil (SWs.nil ⟨r, ps ++ [(each, own nm p1 p2 each)], some (.im (.str each)), some (.im (.int (own nm p1 p2 each))), rfl, ?_, by simp; omega, ?_⟩)
        · rw [← e2, List.append_assoc, List.filter_cons_of_pos (by simpa using h)]; rfl
        · rw [List.map_append]; rfl
      · rename_i h
        have h : own nm p1 p2 each = 0 := by simpa using h
        refine SWs.nil (SWs.nil ⟨r, ps, some (.im (.str each)), some (.im (.int (own nm p1 p2 each))), rfl, ?_, by omega, rfl⟩)
        rw [← e2, List.filter_cons_of_neg (by simpa using h)]
  · rintro ρ' ⟨r, ps, x, y, e1, e2, e3, rfl⟩
    have : r = [] := by cases r with | nil => rfl | cons p r => cases e1
    subst this
    simp only [List.filter_nil, List.map_nil, List.append_nil] at e2
    subst e2
    refine SWs.nil ?_
    refine SWs.cons (SW.ret (EW.tuple (LW.cons (EW.bin (EW.sub (EW.name 0 rfl rfl (EW.cint (⟨_, SubS.tup (j := 0) (by decide) (by decide) rfl rfl, EW.bin (EW.name 3 rfl rfl (EW.sub (EW.name 2 rfl rfl (EW.cint (⟨_, SubS.tup (j := 0) (by decide) (by decide) rfl rfl, ⟨_, BinS.mul (mulOk hb hk), ⟨_, BinS.add _ _, LW.cons (EW.bcall rfl C.b_tuple bb_tuple trivial (LW.cons (EW.name 5 rfl rfl (LW.nil (⟨_, BuiS.tupleL ?_, LW.nil (⟨_, .cons (.cons .nil), (show 2 ≤ sizeLine by decide), ?_⟩)⟩)))))⟩⟩⟩)))))⟩))))))))
    · rw [List.length_map]; exact h64 (by simp at e3; omega)
    · rfl
end Mine
end

section
open PySem PySem.W PyProof.Rows PySem.Calls PyProof
set_option Elab.async false
set_option maxHeartbeats 1600000
set_option maxRecDepth 100000
set_option linter.unusedVariables false
namespace Mine
variable {B : Bs}
theorem GS.len {ss : List Str} {M : Nat} {k : Int} {ps : List (Str × Int)} (g : GS ss M k ps) (h4 : ss.length ≤ 4) : ps.length ≤ 4 := by
  have := nodup_len (strict_nodup g.good.inc) (m := ss) fun x hx => by obtain ⟨p, hp, rfl⟩ := List.mem_map.mp hx; exact g.good.mem p hp
  rw [List.length_map] at this; omega
theorem GS.own {ss : List Str} {M : Nat} {k : Int} {ps : List (Str × Int)} (g : GS ss M k ps) (nm : Str) : (sumOf nm ps).natAbs ≤ M := by
  rw [← iAt_sumOf (strict_nodup g.good.inc) nm]
  cases h : iAt ps nm with
  | none => exact Nat.zero_le _
  | some v => exact g.bd _ (iAt_in h)
noncomputable def pf (nm : Str) (k2 : Int) (p2 : List (Str × Int)) (k : Int) (ps : List (Str × Int)) : Int × List (Str × Int) := (k + sumOf nm ps * k2, putL nm ps p2)
noncomputable abbrev placedBody : List Stmt := bodyOf pw 18
noncomputable abbrev lputBody : List Stmt := bodyOf pw 31
theorem placed_spec (C : Cx B) {ss : List Str} {M : Nat} (hM : M < 10 ^ 400) (h4 : ss.length ≤ 4) {nm : Str} {k2 : Int} {p2 : List (Str × Int)} (h2 : p2.length ≤ 8) (hk : Bd 400 k2) (hp2 : ∀ p ∈ p2, Bd 400 p.2) :
    ∀ s : St, s.pl = true → s.Gd ss M → ∀ n : Nat, Spec B "placed" NoX (n + s.dp + 4) [.im s.d, .im (.str nm), .im (sumD k2 p2)] fun q => q = .im (s.mp (pf nm k2 p2)).d := by
  obtain ⟨vA, a1, a2⟩ := gA C
  have hq := C.quiet
  have atom : ∀ {w : Str} {hd : List D} {k : Int} {ps : List (Str × Int)} {j : Nat} (n : Nat), GS ss M k ps → hd.length ≤ 4 → (["above", "nought", "goes"] : List Str).contains w = true →
      seqIndex? (-1) (D.str w :: (hd ++ [sumD k ps])).length = some j → (D.str w :: (hd ++ [sumD k ps]))[j]? = some (sumD k ps) →
      SWs B F_placed NoX (n + 3) (start F_placed [.im (.tup (.str w :: (hd ++ [sumD k ps]))), .im (.str nm), .im (sumD k2 p2)]) placedBody (RetOk fun q => q = .im (.tup (.str w :: (hd ++ [sumD (k + sumOf nm ps * k2) (putL nm ps p2)])))) := fun {w hd k ps j} n g hl h1 h6 h7 => by
    refine SWs.cons (SW.ife (TW.cmp (EW.sub (EW.name 0 rfl rfl (EW.cint (⟨_, SubS.tup (j := 0) (by decide) (by decide) head0 rfl, EW.glob rfl a1 a2 (⟨_, CmpS.inTS, ifTd h1 ?_⟩)⟩))))))
    refine SWs.cons (SW.ret (EW.bin (EW.slice (EW.name 0 rfl rfl (PW.none (PW.some (EW.un (EW.cint (⟨_, UnS.neg _, ⟨_, rfl, ⟨_, SlcS.init (l := .str w :: hd) (d := sumD k ps) (h64 (by simp; omega)), EW.tuple (LW.cons (EW.call rfl (LW.cons (EW.sub (EW.name 0 rfl rfl (EW.un (EW.cint (⟨_, UnS.neg _, ⟨_, SubS.tup (by decide) (by decide) h6 h7, LW.cons (EW.name 1 rfl rfl (LW.cons (EW.name 2 rfl rfl (LW.nil ?_))))⟩⟩)))))) C.f_put_in.some))⟩⟩⟩)))))))))
    have nd := strict_nodup g.good.inc
    have hl4 := g.len h4
    refine (put_in_spec C n (by omega) (by omega) (by rw [iAt_sumOf nd]; exact Bd.of_le (g.own nm) hM) hk hp2).mono (Nat.le_refl _) ?_ (fun _ x => x)
    rintro _ rfl
    refine LW.nil (⟨_, .cons .nil, (show 1 ≤ sizeLine by decide), ⟨_, BinS.addT (h64 (by simp; omega)), ?_⟩⟩)
    show _ = _
    rw [put_eq nd, iAt_sumOf nd]; rfl
  refine St.ind ?_ ?_ ?_ ?_ ?_ ?_
  · intro k ps _ gs n
    refine Spec.of_body (F := F_placed) C.f_placed rfl (by decide) rfl ?_
    exact atom (hd := []) (j := 1) n gs (by decide) (by decide +kernel) rfl rfl
  · intro k ps _ gs n
    refine Spec.of_body (F := F_placed) C.f_placed rfl (by decide) rfl ?_
    exact atom (hd := []) (j := 1) n gs (by decide) (by decide +kernel) rfl rfl
  · intro m k ps _ gs n
    refine Spec.of_body (F := F_placed) C.f_placed rfl (by decide) rfl ?_
    exact atom (hd := [.int m]) (j := 2) n gs.2 (by simp) (by decide +kernel) rfl rfl
  · intro s ih hp gd n
    refine Spec.of_body (F := F_placed) C.f_placed rfl (by decide) rfl ?_
    show SWs B F_placed NoX (n + (s.dp + 1) + 3) (start F_placed [.im (.tup [.str "not", s.d]), .im (.str nm), .im (sumD k2 p2)]) placedBody _
    refine SWs.cons (SW.ife (TW.cmp (EW.sub (EW.name 0 rfl rfl (EW.cint (⟨_, SubS.tup (j := 0) (by decide) (by decide) rfl rfl, EW.glob rfl a1 a2 (⟨_, CmpS.inTS, ifFd (by decide +kernel) (SWs.nil ?_)⟩)⟩))))))
    refine SWs.cons (SW.ife (TW.cmp (EW.sub (EW.name 0 rfl rfl (EW.cint (⟨_, SubS.tup (j := 0) (by decide) (by decide) rfl rfl, EW.cstr (⟨_, CmpS.eqS _ _, ifTd (by decide +kernel) ?_⟩)⟩))))))
    refine SWs.cons (SW.ret (EW.tuple (LW.cons (EW.cstr (LW.cons (EW.call rfl (LW.cons (EW.sub (EW.name 0 rfl rfl (EW.cint (⟨_, SubS.tup (j := 1) (by decide) (by decide) rfl rfl, LW.cons (EW.name 1 rfl rfl (LW.cons (EW.name 2 rfl rfl (LW.nil ?_))))⟩))))) C.f_placed.some))))))
    refine (ih hp gd n).mono (by omega) ?_ (fun _ x => x)
    rintro _ rfl
    exact LW.nil (⟨_, .cons (.cons .nil), (show 2 ≤ sizeLine by decide), rfl⟩)
  · intro a l ih hp gd n
    refine Spec.of_body (F := F_placed) C.f_placed rfl (by decide) rfl ?_
    show SWs B F_placed NoX (n + (l.dp + 1) + 3) (start F_placed [.im (.tup [.str (cw a), .tup l.ds]), .im (.str nm), .im (sumD k2 p2)]) placedBody _
    have hA : (["above", "nought", "goes"] : List Str).contains (cw a) = false := by cases a <;> decide +kernel
    have hN : (cw a == ("not" : Str)) = false := by cases a <;> decide +kernel
    refine SWs.cons (SW.ife (TW.cmp (EW.sub (EW.name 0 rfl rfl (EW.cint (⟨_, SubS.tup (j := 0) (by decide) (by decide) rfl rfl, EW.glob rfl a1 a2 (⟨_, CmpS.inTS, ifFd hA (SWs.nil ?_)⟩)⟩))))))
    refine SWs.cons (SW.ife (TW.cmp (EW.sub (EW.name 0 rfl rfl (EW.cint (⟨_, SubS.tup (j := 0) (by decide) (by decide) rfl rfl, EW.cstr (⟨_, CmpS.eqS _ _, ifFd hN (SWs.nil ?_)⟩)⟩))))))
    have hlen : (l.ds.filterMap (stF fun s => s.mp (pf nm k2 p2))).length ≤ sizeLine := by
      rw [stF_list, ds_len, Sts.map_len]; exact h64 (Nat.le_trans gd.1 (by decide))
    have ih' : l.All fun t => Spec B "placed" NoX (n + (l.dp + 1) + 3) [.im t.d, .im (.str nm), .im (sumD k2 p2)] fun q => q = .im (t.mp (pf nm k2 p2)).d :=
      (((ih.and (Sts.Gd.all gd.2)).and (Sts.dp_all l (Nat.le_refl _))).and (plAll l hp)).imp fun t h => (h.1.1.1 h.2 h.1.1.2 (n + (l.dp - t.dp))).mono (by have := h.1.2; omega) (fun _ x => x) (fun _ x => x)
    refine SWs.cons (SW.ret (EW.tuple (LW.cons (EW.sub (EW.name 0 rfl rfl (EW.cint (⟨_, SubS.tup (j := 0) (by decide) (by decide) rfl rfl, LW.cons (EW.bcall rfl C.b_tuple bb_tuple trivial (LW.cons (EW.compV [("part", .loc), ("name", .cel), ("other", .cel)] 1 [1, 2] (by decide +kernel) (by decide +kernel) (EW.sub (EW.name 0 rfl rfl (EW.cint (⟨_, SubS.tup (j := 1) (by decide) (by decide) rfl rfl, ⟨_, IterS.tup, stF (fun s => s.mp (pf nm k2 p2)), ?_, hlen, LW.nil (⟨_, BuiS.tupleL hlen, LW.nil (⟨_, .cons (.cons .nil), (show 2 ≤ sizeLine by decide), ?_⟩)⟩)⟩⟩)))))))⟩)))))))
    · intro d hd
      obtain ⟨t, rfl, ht⟩ := Sts.mem_ds ih' hd
      refine AsW.name 0 rfl (by decide) (by decide) ⟨rfl, IfsW.nil (ifT (EW.call rfl (LW.cons (EW.name 0 rfl rfl (LW.cons (EW.name 1 rfl rfl (LW.cons (EW.name 2 rfl rfl (LW.nil ?_))))))) C.f_placed.some))⟩
      refine ht.mono (Nat.le_refl _) ?_ (fun _ x => x.elim)
      rintro _ rfl
      exact ⟨_, stF_d _ _, rfl⟩
    · show _ = _
      rw [stF_list, ← mp_map]; rfl
  · intro e nm s ih hp gd n
    cases hp
theorem lput_spec (C : Cx B) {ss : List Str} {M : Nat} (hM : M < 10 ^ 400) (h4 : ss.length ≤ 4) {nm : Str} {k2 : Int} {p2 : List (Str × Int)} (h2 : p2.length ≤ 8) (hk : Bd 400 k2) (hs : ∀ k, Bd 400 (sumOf k p2)) :
    ∀ s : St, s.pl = true → s.Gd ss M → ∀ n : Nat, Spec B "_law_put" NoX (n + s.dp + 2) [.im s.d, .im (.str nm), .im (sumD k2 p2)] fun q => q = .im (s.mp (pf nm k2 p2)).d := by
  have hq := C.quiet
  have atom : ∀ {w : Str} {hd : List D} {k : Int} {ps : List (Str × Int)} {j : Nat} (n : Nat), GS ss M k ps → hd.length ≤ 4 → (w == "not") = false → (w == "and") = false → (w == "or") = false →
      seqIndex? (-1) (D.str w :: (hd ++ [sumD k ps])).length = some j → (D.str w :: (hd ++ [sumD k ps]))[j]? = some (sumD k ps) →
      SWs B F_lput NoX (n + 1) (start F_lput [.im (.tup (.str w :: (hd ++ [sumD k ps]))), .im (.str nm), .im (sumD k2 p2)]) lputBody (RetOk fun q => q = .im (.tup (.str w :: (hd ++ [sumD (k + sumOf nm ps * k2) (putL nm ps p2)])))) := fun {w hd k ps j} n g hl h1 h3 h5 h6 h7 => by
    refine SWs.cons (SW.assign 3 rfl (by decide) (by decide) (EW.sub (EW.name 0 rfl rfl (EW.cint (⟨_, SubS.tup (j := 0) (by decide) (by decide) head0 rfl, ⟨_, rfl, ?_⟩⟩)))))
    refine SWs.cons (SW.ife (TW.cmp (EW.name 3 rfl rfl (EW.cstr (⟨_, CmpS.eqS _ _, ifFd h1 (SWs.nil ?_)⟩)))))
    refine SWs.cons (SW.ife (TW.bool (AW.orCons (TW.cmp (EW.name 3 rfl rfl (EW.cstr (⟨_, CmpS.eqS _ _, ifFd h3 (AW.orCons (TW.cmp (EW.name 3 rfl rfl (EW.cstr (⟨_, CmpS.eqS _ _, ifFd h5 (AW.orNil (ifF (SWs.nil ?_)))⟩)))))⟩)))))))
    refine SWs.cons (SW.ret (EW.bin (EW.slice (EW.name 0 rfl rfl (PW.none (PW.some (EW.un (EW.cint (⟨_, UnS.neg _, ⟨_, rfl, ⟨_, SlcS.init (l := .str w :: hd) (d := sumD k ps) (h64 (by simp; omega)), EW.tuple (LW.cons (EW.call rfl (LW.cons (EW.sub (EW.name 0 rfl rfl (EW.un (EW.cint (⟨_, UnS.neg _, ⟨_, SubS.tup (by decide) (by decide) h6 h7, LW.cons (EW.name 1 rfl rfl (LW.cons (EW.name 2 rfl rfl (LW.nil ?_))))⟩⟩)))))) C.f_sum_put.some))⟩⟩⟩)))))))))
    have hl4 := g.len h4
    refine (sum_put_spec C n (by omega) h2 (Bd.of_le (g.own nm) hM) hk hs).mono (Nat.le_refl _) ?_ (fun _ x => x)
    rintro _ rfl
    exact LW.nil (⟨_, .cons .nil, (show 1 ≤ sizeLine by decide), ⟨_, BinS.addT (h64 (by simp; omega)), rfl⟩⟩)
  refine St.ind ?_ ?_ ?_ ?_ ?_ ?_
  · intro k ps _ gs n
    refine Spec.of_body (F := F_lput) C.f_lput rfl (by decide) rfl ?_
    exact atom (hd := []) (j := 1) n gs (by decide) (by decide +kernel) (by decide +kernel) (by decide +kernel) rfl rfl
  · intro k ps _ gs n
    refine Spec.of_body (F := F_lput) C.f_lput rfl (by decide) rfl ?_
    exact atom (hd := []) (j := 1) n gs (by decide) (by decide +kernel) (by decide +kernel) (by decide +kernel) rfl rfl
  · intro m k ps _ gs n
    refine Spec.of_body (F := F_lput) C.f_lput rfl (by decide) rfl ?_
    exact atom (hd := [.int m]) (j := 2) n gs.2 (by simp) (by decide +kernel) (by decide +kernel) (by decide +kernel) rfl rfl
  · intro s ih hp gd n
    refine Spec.of_body (F := F_lput) C.f_lput rfl (by decide) rfl ?_
    show SWs B F_lput NoX (n + (s.dp + 1) + 1) (start F_lput [.im (.tup [.str "not", s.d]), .im (.str nm), .im (sumD k2 p2)]) lputBody _
    refine SWs.cons (SW.assign 3 rfl (by decide) (by decide) (EW.sub (EW.name 0 rfl rfl (EW.cint (⟨_, SubS.tup (j := 0) (by decide) (by decide) rfl rfl, ⟨_, rfl, ?_⟩⟩)))))
    refine SWs.cons (SW.ife (TW.cmp (EW.name 3 rfl rfl (EW.cstr (⟨_, CmpS.eqS _ _, ifTd (by decide +kernel) ?_⟩)))))
    refine SWs.cons (SW.ret (EW.tuple (LW.cons (EW.cstr (LW.cons (EW.call rfl (LW.cons (EW.sub (EW.name 0 rfl rfl (EW.cint (⟨_, SubS.tup (j := 1) (by decide) (by decide) rfl rfl, LW.cons (EW.name 1 rfl rfl (LW.cons (EW.name 2 rfl rfl (LW.nil ?_))))⟩))))) C.f_lput.some))))))
    refine (ih hp gd n).mono (by omega) ?_ (fun _ x => x)
    rintro _ rfl
    exact LW.nil (⟨_, .cons (.cons .nil), (show 2 ≤ sizeLine by decide), rfl⟩)
  · intro a l ih hp gd n
    refine Spec.of_body (F := F_lput) C.f_lput rfl (by decide) rfl ?_
    show SWs B F_lput NoX (n + (l.dp + 1) + 1) (start F_lput [.im (.tup [.str (cw a), .tup l.ds]), .im (.str nm), .im (sumD k2 p2)]) lputBody _
    have hN : (cw a == ("not" : Str)) = false := by cases a <;> decide +kernel
    refine SWs.cons (SW.assign 3 rfl (by decide) (by decide) (EW.sub (EW.name 0 rfl rfl (EW.cint (⟨_, SubS.tup (j := 0) (by decide) (by decide) rfl rfl, ⟨_, rfl, ?_⟩⟩)))))
    refine SWs.cons (SW.ife (TW.cmp (EW.name 3 rfl rfl (EW.cstr (⟨_, CmpS.eqS _ _, ifFd hN (SWs.nil ?_)⟩)))))
    refine SWs.cons (SW.ife (TW.mono (Q := fun b => b = true) (TW.bool (AW.orCons (TW.cmp (EW.name 3 rfl rfl (EW.cstr (⟨_, CmpS.eqS _ _, ?_⟩)))))) ?_))
    · cases a with
      | true => exact ifTd (by decide +kernel) rfl
      | false => exact ifFd (by decide +kernel) (AW.orCons (TW.cmp (EW.name 3 rfl rfl (EW.cstr (⟨_, CmpS.eqS _ _, ifTd (by decide +kernel) rfl⟩)))))
    rintro _ rfl
    refine ifT ?_
    have hlen : (l.ds.filterMap (stF fun s => s.mp (pf nm k2 p2))).length ≤ sizeLine := by
      rw [stF_list, ds_len, Sts.map_len]; exact h64 (Nat.le_trans gd.1 (by decide))
    have ih' : l.All fun t => Spec B "_law_put" NoX (n + (l.dp + 1) + 1) [.im t.d, .im (.str nm), .im (sumD k2 p2)] fun q => q = .im (t.mp (pf nm k2 p2)).d :=
      (((ih.and (Sts.Gd.all gd.2)).and (Sts.dp_all l (Nat.le_refl _))).and (plAll l hp)).imp fun t h => (h.1.1.1 h.2 h.1.1.2 (n + (l.dp - t.dp))).mono (by have := h.1.2; omega) (fun _ x => x) (fun _ x => x)
    refine SWs.cons (SW.ret (EW.tuple (LW.cons (EW.name 3 rfl rfl (LW.cons (EW.bcall rfl C.b_tuple bb_tuple trivial (LW.cons (EW.compV [("_law_part", .loc), ("_law_name", .cel), ("_law_other", .cel)] 1 [1, 2] (by decide +kernel) (by decide +kernel) (EW.sub (EW.name 0 rfl rfl (EW.cint (⟨_, SubS.tup (j := 1) (by decide) (by decide) rfl rfl, ⟨_, IterS.tup, stF (fun s => s.mp (pf nm k2 p2)), ?_, hlen, LW.nil (⟨_, BuiS.tupleL hlen, LW.nil (⟨_, .cons (.cons .nil), (show 2 ≤ sizeLine by decide), ?_⟩)⟩)⟩⟩))))))))))))
    · intro d hd
      obtain ⟨t, rfl, ht⟩ := Sts.mem_ds ih' hd
      refine AsW.name 0 rfl (by decide) (by decide) ⟨rfl, IfsW.nil (ifT (EW.call rfl (LW.cons (EW.name 0 rfl rfl (LW.cons (EW.name 1 rfl rfl (LW.cons (EW.name 2 rfl rfl (LW.nil ?_))))))) C.f_lput.some))⟩
      refine ht.mono (Nat.le_refl _) ?_ (fun _ x => x.elim)
      rintro _ rfl
      exact ⟨_, stF_d _ _, rfl⟩
    · show _ = _
      rw [stF_list, ← mp_map]; rfl
  · intro e nm s ih hp gd n
    cases hp
end Mine
end

section
open PySem PySem.W PyProof.Rows PySem.Calls PyProof
set_option Elab.async false
set_option maxHeartbeats 1600000
set_option maxRecDepth 100000
set_option linter.unusedVariables false
namespace Mine
variable {B : Bs}
theorem put_spec (C : Cx B) {ss : List Str} {M : Nat} (hM : M < 10 ^ 400) (h4 : ss.length ≤ 4) {nm : Str} {k2 : Int} {p2 : List (Str × Int)} (h2 : p2.length ≤ 8) (hk : Bd 400 k2) (hp2 : ∀ p ∈ p2, Bd 400 p.2) {s : St} (g : s.Gd ss M) (n : Nat) :
    Spec B "put" (NPl s) (n + s.dp + 5) [.im s.d, .im (.str nm), .im (sumD k2 p2)] fun q => s.pl = true ∧ q = .im (s.mp (pf nm k2 p2)).d := by
  refine Spec.of_body (F := F_put) C.f_put rfl (by decide) rfl ?_
  have hq := C.quiet
  refine SWs.cons (SW.expr (EW.call rfl (LW.cons (EW.name 0 rfl rfl (LW.nil ?_))) C.f_need_plain.some))
  refine (need_plain_spec C g (n + 1)).mono (by omega) ?_ (fun _ x => x)
  rintro _ ⟨hp, rfl⟩
  refine SWs.cons (SW.ret (EW.call rfl (LW.cons (EW.name 0 rfl rfl (LW.cons (EW.name 1 rfl rfl (LW.cons (EW.name 2 rfl rfl (LW.nil ?_))))))) C.f_placed.some))
  refine (placed_spec C hM h4 h2 hk hp2 s hp g n).mono (Nat.le_refl _) ?_ (fun _ x => x.elim)
  rintro _ rfl
  exact ⟨hp, rfl⟩
theorem refused_spec (C : Cx B) {ss : List Str} {M : Nat} (hM : M < 10 ^ 400) (h4 : ss.length ≤ 4) {nm : Str} {k2 : Int} {p2 : List (Str × Int)} (h2 : p2.length ≤ 8) (hk : Bd 400 k2) (hp2 : ∀ p ∈ p2, Bd 400 p.2) {s : St} (g : s.Gd ss M) (hp : s.pl = false) (n : Nat) :
    Spec B "_law_refused" NoX (n + s.dp + 6) [.im s.d, .im (.str nm), .im (sumD k2 p2)] fun q => q = .im (.str "not plain") := by
  refine Spec.of_body (F := F_refused) C.f_refused rfl (by decide) rfl ?_
  have hq := C.quiet
  have m := mgC C
  refine SWs.cons (SW.tryExpr (X1 := NPl s) (K := kf B.w.params) 3 rfl (by decide) (show 3 < 4 by decide) rfl rfl C.kin (S := 24) m.1 (xc _).1 ?_ (fun _ => .str "not plain") ?_ C.f_word_of.some ?_ ?_)
  · rintro c' ⟨rfl, _⟩
    exact ⟨49, m.2.2.1, (xn _).2.2.2.2.2⟩
  · rintro c' ⟨rfl, _⟩
    exact (word_ofP C (n + s.dp + 4)).mono (Nat.le_refl _) (fun _ x => x) (fun _ x => x)
  · rintro c' ⟨rfl, _⟩
    exact rfl
  · refine EW.call rfl (LW.cons (EW.name 0 rfl rfl (LW.cons (EW.name 1 rfl rfl (LW.cons (EW.name 2 rfl rfl (LW.nil ?_))))))) C.f_put.some
    refine (put_spec C hM h4 h2 hk hp2 g n).mono (Nat.le_refl _) ?_ (fun _ x => x)
    rintro _ ⟨h, _⟩
    rw [hp] at h; cases h
theorem most06 (c : Int) (h0 : 0 ≤ c) (h : c < 2) : ∃ m : Int, 0 < m ∧ m.natAbs ≤ 10 ^ 12 ∧ ([D.int 6, D.int ((10 : Int) ^ (12 : Int).toNat)] : List D)[c.toNat]? = some (.int m) := by
  have : c = 0 ∨ c = 1 := by omega
  rcases this with rfl | rfl
  · exact ⟨6, by decide, by decide +kernel, rfl⟩
  · exact ⟨10 ^ 12, by decide, by decide +kernel, rfl⟩
theorem take3 {ss : List Str} (h4 : ss.length = 4) : pick (ss.map D.str) none (some 3) = (ss.take 3).map .str := by
  match ss, h4 with
  | [a, b, c, d], _ => rfl
noncomputable def smF (nm : Str) (b : Bool) : D → Option D
  | .str x => if x ≠ nm ∨ b = true then some (.str x) else none
  | _ => none
theorem smF_t {nm x : Str} {b : Bool} (h : x ≠ nm ∨ b = true) : smF nm b (.str x) = some (.str x) := if_pos h
theorem smF_f {nm x : Str} {b : Bool} (h : ¬ (x ≠ nm ∨ b = true)) : smF nm b (.str x) = none := if_neg h
theorem smF_list (nm : Str) (b : Bool) : ∀ l : List Str, (l.map D.str).filterMap (smF nm b) = (l.filter fun x => decide (x ≠ nm ∨ b = true)).map D.str
  | [] => rfl
  | x :: l => by
    rw [List.map_cons]
    by_cases h : x ≠ nm ∨ b = true
    · rw [List.filterMap_cons_some (smF_t h), smF_list nm b l, List.filter_cons_of_pos (by simpa using h)]; rfl
    · rw [List.filterMap_cons_none (smF_f h), smF_list nm b l, List.filter_cons_of_neg (by simpa using h)]
theorem law_spec (C : Cx B) (n : Nat) {is : List Int} (hl : is.length < 64) : Spec B "law" NoX (n + 300) [.ct (.lst (is.map .int))] fun q => q = .im (.bool true) := by
  refine Spec.of_body (F := F_law) C.f_law rfl (by decide) rfl ?_
  have hq := C.quiet
  refine SWs.cons (SW.assign 1 rfl (by decide) (by decide) (EW.call rfl (LW.cons (EW.call rfl (LW.cons (EW.name 0 rfl rfl (LW.cons (EW.cint (LW.nil ?_))))) C.f_cell_at.some)) C.f_names_by.some))
  refine (cell_at_spec C (n + 298) (by decide) (by decide) hl).mono (Nat.le_refl _) ?_ (fun _ x => x)
  rintro _ rfl
  refine LW.nil ?_
  refine (names_by_spec C (n + 298)).mono (Nat.le_refl _) ?_ (fun _ x => x)
  rintro _ ⟨ss, h4, hnd, hne, rfl⟩
  refine ⟨_, rfl, ?_⟩
  refine SWs.freeze 1 rfl ?_
  have hnd3 : (ss.take 3).Nodup := hnd.sublist (List.take_sublist _ _)
  have h3 : (ss.take 3).length < 64 := by rw [List.length_take]; omega
  have hs4 : (ss.map D.str).length ≤ sizeLine := h64 (by rw [List.length_map]; omega)
  have sub3 : ∀ x ∈ ss.take 3, x ∈ ss := fun x hx => List.mem_of_mem_take hx
  refine SWs.cons (SW.assign 2 rfl (by decide) (by decide) (EW.bin (EW.cint (EW.bin (EW.call rfl (LW.cons (EW.name 0 rfl rfl (LW.cons (EW.cint (LW.nil ?_))))) C.f_cell_at.some)))))
  refine (cell_at_spec C (n + 298) (by decide) (by decide) hl).mono (Nat.le_refl _) ?_ (fun _ x => x)
  rintro _ rfl
  refine EW.cint (⟨_, BinS.modP (by decide), ⟨_, BinS.add _ _, ⟨_, rfl, ?_⟩⟩⟩)
  generalize hcnt : 1 + cellAt is 1 % 6 = cnt
  have hcnt1 : 1 ≤ cnt ∧ cnt ≤ 6 := by omega
  refine SWs.cons (SW.assign 3 rfl (by decide) (by decide) (EW.sub (EW.list (LW.cons (EW.cint (LW.cons (EW.bin (EW.cint (EW.cint (⟨_, BinS.pow (by decide) (by decide) (by decide), LW.nil (⟨_, .cons (.cons .nil), (show 2 ≤ sizeLine by decide), EW.bin (EW.bin (EW.call rfl (LW.cons (EW.name 0 rfl rfl (LW.cons (EW.cint (LW.nil ?_))))) C.f_cell_at.some))⟩)⟩))))))))))
  refine (cell_at_spec C (n + 298) (by decide) (by decide) hl).mono (Nat.le_refl _) ?_ (fun _ x => x)
  rintro _ rfl
  obtain ⟨most, hm0, hmM, hme⟩ := most06 (cellAt is 1 / 6 % 2) (by omega) (by omega)
  refine EW.cint (⟨_, BinS.fdivP (by decide) (by decide), EW.cint (⟨_, BinS.modP (by decide), ⟨_, SubS.list (by omega) (by omega) hme, ⟨_, rfl, ?_⟩⟩⟩)⟩)
  refine SWs.cons (SW.assign 4 rfl (by decide) (by decide) (EW.call rfl (LW.cons (EW.name 0 rfl rfl (LW.cons (EW.cint (LW.cons (EW.name 2 rfl rfl (LW.cons (EW.slice (EW.name 1 rfl rfl (PW.none (PW.some (EW.cint (⟨_, rfl, ⟨_, SlcS.list hs4, LW.cons (EW.cint (LW.cons (EW.name 3 rfl rfl (LW.nil ?_))))⟩⟩))))))))))))) C.f_plain_by.some))
  rw [take3 h4]
  refine (plain_by_spec C (n + 296) (by decide) hm0 h3 hl (by decide) (by decide) hcnt1.1 hcnt1.2).mono (Nat.le_refl _) ?_ (fun _ x => x)
  rintro _ rfl
  refine ⟨_, rfl, ?_⟩
  have hM : (10 ^ 12 : Nat) < 10 ^ 400 := by decide +kernel
  have gP : (plainSt is 6 cnt (ss.take 3) 3 most).Gd ss (10 ^ 12) := plain_gd hnd3 sub3 (by decide) (by decide +kernel) hm0 hmM (by decide +kernel)
  have pP : (plainSt is 6 cnt (ss.take 3) 3 most).pl = true := plain_pl
  have dP : (plainSt is 6 cnt (ss.take 3) 3 most).dp ≤ 120 := plain_dp hcnt1.2
  generalize hs0 : plainSt is 6 cnt (ss.take 3) 3 most = s0 at gP pP dP
  refine SWs.cons (SW.assign 5 rfl (by decide) (by decide) (EW.sub (EW.name 1 rfl rfl (EW.bin (EW.call rfl (LW.cons (EW.name 0 rfl rfl (LW.cons (EW.cint (LW.nil ?_))))) C.f_cell_at.some)))))
  refine (cell_at_spec C (n + 298) (by decide) (by decide) hl).mono (Nat.le_refl _) ?_ (fun _ x => x)
  rintro _ rfl
  refine EW.cint (⟨_, BinS.modP (by decide), ⟨_, SubS.list (by omega) (by omega) (nameAt h4 _ (by omega) (by omega)), ⟨_, rfl, ?_⟩⟩⟩)
  generalize ss.getD (cellAt is 2 % 4).toNat default = nm
  have hlen6 : ((ss.map D.str).filterMap (smF nm (cellAt is 3 % 3 == 1))).length ≤ sizeLine := Nat.le_trans (List.length_filterMap_le _ _) hs4
  refine SWs.cons (SW.assignCompV 6 [("_law_each", .loc), ("_law_name", .cel), ("_law_script", .cel)] 1 [5, 0] rfl (by decide) (by decide +kernel) (by decide +kernel) (EW.name 1 rfl rfl (⟨_, IterS.list (fun i q => by cases q), smF nm (cellAt is 3 % 3 == 1), ?_, hlen6, ?_⟩)) rfl rfl)
  · intro d hd
    obtain ⟨x, hx, rfl⟩ := List.mem_map.mp hd
    refine AsW.name 0 rfl (by decide) (by decide) ⟨rfl, IfsW.one (TW.bool (AW.orCons (TW.cmp (EW.name 0 rfl rfl (EW.name 1 rfl rfl (⟨_, CmpS.neS _ _, ?_⟩))))))⟩
    split
    · rename_i h
      have h : x ≠ nm := by simpa using h
      exact ifT (EW.name 0 rfl rfl (⟨_, smF_t (.inl h), rfl⟩))
    · rename_i h
      have h : ¬ x ≠ nm := by simpa using h
      refine AW.orCons (TW.cmp (EW.bin (EW.call rfl (LW.cons (EW.name 2 rfl rfl (LW.cons (EW.cint (LW.nil ?_))))) C.f_cell_at.some)))
      refine (cell_at_spec C (n + 298) (by decide) (by decide) hl).mono (Nat.le_refl _) ?_ (fun _ x => x)
      rintro _ rfl
      refine EW.cint (⟨_, BinS.modP (by decide), EW.cint (⟨_, CmpS.eqI _ _, ?_⟩)⟩)
      split
      · rename_i h'
        exact ifT (EW.name 0 rfl rfl (⟨_, smF_t (.inr h'), rfl⟩))
      · rename_i h'
        refine AW.orNil (ifF ?_)
        exact smF_f (fun q => q.elim h h')
  rw [smF_list]
  generalize hsm : (ss.filter fun x => decide (x ≠ nm ∨ (cellAt is 3 % 3 == 1) = true)) = sm
  have smsub : ∀ x ∈ sm, x ∈ ss := fun x hx => by rw [← hsm] at hx; exact (List.mem_filter.mp hx).1
  have smnd : sm.Nodup := by rw [← hsm]; exact hnd.sublist List.filter_sublist
  have smlen : sm.length ≤ 4 := by rw [← hsm]; have := List.length_filter_le (fun x => decide (x ≠ nm ∨ (cellAt is 3 % 3 == 1) = true)) ss; omega
  refine SWs.cons (SW.assign 7 rfl (by decide) (by decide) (EW.call rfl (LW.cons (EW.bin (EW.call rfl (LW.cons (EW.name 0 rfl rfl (LW.cons (EW.cint (LW.nil ?_))))) C.f_cell_at.some))) C.f_sum_by.some))
  refine (cell_at_spec C (n + 298) (by decide) (by decide) hl).mono (Nat.le_refl _) ?_ (fun _ x => x)
  rintro _ rfl
  refine EW.cint (⟨_, BinS.fdivP (by decide) (by decide), LW.cons (EW.name 6 rfl rfl (LW.cons (EW.cint (LW.nil ?_))))⟩)
  refine (sum_by_spec C (n + 298) (by decide) (by omega)).mono (Nat.le_refl _) ?_ (fun _ x => x)
  rintro _ rfl
  refine ⟨_, rfl, ?_⟩
  have gO : GS ss 10 (sumK (cellAt is 3 / 3) sm) (sumL 3 (cellAt is 3 / 3) (srt sm)) := by
    refine ⟨Good.sum smnd smsub, fun p hp => ?_, ?_⟩
    · have := sumL_bd (wide := 3) (by decide) _ _ p hp; omega
    · unfold sumK
      generalize nxt (sumN (cellAt is 3 / 3) (srt sm)) / 7 = z
      omega
  generalize sumK (cellAt is 3 / 3) sm = k2 at gO
  generalize sumL 3 (cellAt is 3 / 3) (srt sm) = p2 at gO
  have h2 : p2.length ≤ 8 := by have := gO.len (by omega); omega
  have hk2 : Bd 400 k2 := Bd.of_le gO.kb
  have hp2 : ∀ p ∈ p2, Bd 400 p.2 := fun p hp => Bd.of_le (gO.bd p hp)
  have hs2 : ∀ k, Bd 400 (sumOf k p2) := fun k => Bd.of_le (gO.own k)
  refine SWs.cons (SW.ife (TW.cmp (EW.bin (EW.call rfl (LW.cons (EW.name 0 rfl rfl (LW.cons (EW.cint (LW.nil ?_))))) C.f_cell_at.some))))
  refine (cell_at_spec C (n + 298) (by decide) (by decide) hl).mono (Nat.le_refl _) ?_ (fun _ x => x)
  rintro _ rfl
  refine EW.cint (⟨_, BinS.modP (by decide), EW.cint (⟨_, CmpS.eqI _ _, ?_⟩)⟩)
  split
  · refine SWs.cons (SW.ret (EW.cmp (EW.call rfl (LW.cons (EW.call rfl (LW.cons (EW.call rfl (LW.cons (EW.name 0 rfl rfl (LW.cons (EW.cint (LW.nil ?_))))) C.f_cell_at.some)) C.f_bound_by.some)) C.f_refused.some)))
    refine (cell_at_spec C (n + 298) (by decide) (by decide) hl).mono (Nat.le_refl _) ?_ (fun _ x => x)
    rintro _ rfl
    refine LW.cons (EW.name 4 rfl rfl (LW.cons (EW.name 1 rfl rfl (LW.nil ?_))))
    refine (bound_by_spec C (n + 298) h4).mono (Nat.le_refl _) ?_ (fun _ x => x)
    rintro _ rfl
    have gB := bound_gd (c := cellAt is 5) gP h4 (fun x hx => hx)
    have dB := bound_dp (names := ss) (c := cellAt is 5) (s := s0)
    refine LW.cons (EW.name 5 rfl rfl (LW.cons (EW.name 7 rfl rfl (LW.nil ?_))))
    refine (refused_spec C hM (by omega) h2 hk2 hp2 gB bound_pl (n + 293 - (boundSt (cellAt is 5) s0 ss).dp)).mono (by omega) ?_ (fun _ x => x)
    rintro _ rfl
    exact EW.cstr (⟨_, CmpS.eqS _ _, by simp; rfl⟩)
  refine SWs.nil ?_
  have hpf : ∀ k ps, GS ss (10 ^ 12) k ps → (pf nm k2 p2 k ps).2.length < 100 := fun k ps g => by
    have h1 := g.len (by omega)
    have h2 := putL_len nm ps p2
    show (putL nm ps p2).length < 100
    omega
  refine SWs.cons (SW.ife (TW.not (TW.val (EW.call rfl (LW.cons (EW.call rfl (LW.cons (EW.name 4 rfl rfl (LW.cons (EW.name 5 rfl rfl (LW.cons (EW.name 7 rfl rfl (LW.nil ?_))))))) C.f_put.some)) C.f_alike.some))))
  refine (put_spec C hM (by omega) h2 hk2 hp2 gP (n + 294 - s0.dp)).mono (by omega) ?_ (fun c x => ?_)
  · rintro _ ⟨_, rfl⟩
    refine LW.cons (EW.call rfl (LW.cons (EW.name 4 rfl rfl (LW.cons (EW.name 5 rfl rfl (LW.cons (EW.name 7 rfl rfl (LW.nil ?_))))))) C.f_lput.some)
    refine (lput_spec C hM (by omega) h2 hk2 hs2 s0 pP gP (n + 297 - s0.dp)).mono (by omega) ?_ (fun _ x => x)
    rintro _ rfl
    refine LW.nil ?_
    refine (alike_spec C (St.dg hpf s0 gP) (n + 297 - (2 * s0.dp + 4))).mono (by omega) ?_ (fun _ x => x)
    rintro _ rfl
    refine ⟨_, TruS.bool _, ifF (SWs.nil ?_)⟩
    refine SWs.cons (SW.ret (EW.call rfl (LW.cons (EW.name 4 rfl rfl (LW.cons (EW.call rfl (LW.cons (EW.name 0 rfl rfl (LW.cons (EW.cint (LW.cons (EW.name 2 rfl rfl (LW.cons (EW.slice (EW.name 1 rfl rfl (PW.none (PW.some (EW.cint (⟨_, rfl, ⟨_, SlcS.list hs4, LW.cons (EW.cint (LW.cons (EW.name 3 rfl rfl (LW.nil ?_))))⟩⟩))))))))))))) C.f_plain_by.some)))) C.f_alike.some))
    rw [take3 h4]
    refine (plain_by_spec C (n + 296) (by decide) hm0 h3 hl (by decide) (by decide) hcnt1.1 hcnt1.2).mono (Nat.le_refl _) ?_ (fun _ x => x)
    rintro _ rfl
    rw [hs0]
    refine LW.nil ?_
    have hid := St.dg (f := fun k ps => (k, ps)) (fun k ps g => (by have := GS.len g (by omega); show ps.length < 100; omega)) s0 gP
    rw [St.mp_id] at hid
    refine (alike_spec C hid (n + 297 - (2 * s0.dp + 4))).mono (by omega) ?_ (fun _ x => x)
    rintro _ rfl
    rfl
  · obtain ⟨_, h⟩ := x
    rw [pP] at h; cases h
end Mine
end

section
open PySem PySem.W PyProof.Rows
set_option Elab.async false
set_option maxRecDepth 100000
set_option maxHeartbeats 8000000
namespace Mine
noncomputable def pickIx (l : List Stmt) (ks : List Nat) : List Stmt := ks.filterMap (l[·]?)
noncomputable def view : Program := { pw with main := { pw.main with body := pickIx pw.main.body [1, 2, 3, 4, 6, 7, 8, 9, 10, 11, 13, 14, 15, 16, 17, 18, 19, 21, 22, 23, 24, 25, 26, 27, 28, 29, 30, 31, 32, 33] } }
end Mine
end

open PySem PySem.W PyProof.Rows
set_option Elab.async false
set_option maxRecDepth 100000 in
set_option maxHeartbeats 8000000 in
theorem PySem.Challenge.cw_uf010003_05_holds : PySem.Challenge.rw_uf010003_05.Holds := by
  w_on; o_law
  refine holds_open (q := Mine.view) (loose := []) (Xt := fun s => xlAt Mine.view [] s && recOk (RowW.records (OpenRow.toRowW (PySem.Challenge.rw_uf010003_05.row))) s) (XP := XL Mine.view []) (Yf := Hook.obs (kHook Mine.kf [2, 3, 22, 23, 24, 25, 35, 36, 37, 47, 48, 49, 59, 60, 61, 100, 101] (fun _ => by kernel_rfl))) (Ya := Hook.val (kHook Mine.kf [2, 3, 22, 23, 24, 25, 35, 36, 37, 47, 48, 49, 59, 60, 61, 100, 101] (fun _ => by kernel_rfl))) (YP := Hook.says (kHook Mine.kf [2, 3, 22, 23, 24, 25, 35, 36, 37, 47, 48, 49, 59, 60, 61, 100, 101] (fun _ => by kernel_rfl))) (N := 3326) (fun w => by kernel_rfl) (Hook.of _) (Hook.keeps _) (fun s e => xl_of s (Bool.and_eq_true_iff.mp e).1) XL.keeps (by rfl) (by rfl) (by rfl) (fun s e => recFacts_of (Bool.and_eq_true_iff.mp e).2) (by rfl) (by first | assumption | decide +kernel) (by decide +kernel) ⟨rfl, rfl, rfl, rfl, rfl, by decide +kernel⟩ ?hw ?hc
  (case hw => w_witness2)
  intro w s₀ s₁ mg mb G Y fa o pm cd doc dV kV ho hd hcd hD hmg hg args vals as hpre hlay hrd hwl hlo
  have KX := kIn_of Y
  refine Ground.open G ?_
  intro T B D TE TW
  wrow_args hpre hlay hrd hwl hlo
  rename_i is hs1 hs2 hs3 hs4 hs5 as1 as2 a vs as3 hl ra w1 r0 hi hr hc1 hc2
  have C : ∀ prog : Program, Mine.Cx (Mine.Bs.ofTop T prog w) := fun _ => {
      quiet := rfl
      kin := KX
      o_SomeError := Mine.Own.ofTop T _ w (by decide +kernel)
      o_NoValue := Mine.Own.ofTop T _ w (by decide +kernel)
      o_NotPlain := Mine.Own.ofTop T _ w (by decide +kernel)
      o_NoNote := Mine.Own.ofTop T _ w (by decide +kernel)
      f_made := Mine.FnAt.ofTop T _ w (Mine.recOf Mine.pw 6) (i := 0) (by kernel_rfl) (by kernel_rfl) rfl rfl (fun pm code doc vs hv => by obtain ⟨a, b, rfl⟩ := Mine.len2 hv; rfl) rfl rfl (by decide +kernel)
      f_added := Mine.FnAt.ofTop T _ w (Mine.recOf Mine.pw 7) (i := 1) (by kernel_rfl) (by kernel_rfl) rfl rfl (fun pm code doc vs hv => by obtain ⟨a, b, rfl⟩ := Mine.len2 hv; rfl) rfl rfl (by decide +kernel)
      f_times := Mine.FnAt.ofTop T _ w (Mine.recOf Mine.pw 8) (i := 2) (by kernel_rfl) (by kernel_rfl) rfl rfl (fun pm code doc vs hv => by obtain ⟨a, b, rfl⟩ := Mine.len2 hv; rfl) rfl rfl (by decide +kernel)
      f_share := Mine.FnAt.ofTop T _ w (Mine.recOf Mine.pw 9) (i := 3) (by kernel_rfl) (by kernel_rfl) rfl rfl (fun pm code doc vs hv => by obtain ⟨a, b, rfl⟩ := Mine.len2 hv; rfl) rfl rfl (by decide +kernel)
      f_without := Mine.FnAt.ofTop T _ w (Mine.recOf Mine.pw 10) (i := 4) (by kernel_rfl) (by kernel_rfl) rfl rfl (fun pm code doc vs hv => by obtain ⟨a, b, rfl⟩ := Mine.len2 hv; rfl) rfl rfl (by decide +kernel)
      f_put_in := Mine.FnAt.ofTop T _ w (Mine.recOf Mine.pw 11) (i := 5) (by kernel_rfl) (by kernel_rfl) rfl rfl (fun pm code doc vs hv => by obtain ⟨a, b, c, rfl⟩ := Mine.len3 hv; rfl) rfl rfl (by decide +kernel)
      f_inner := Mine.FnAt.ofTop T _ w (Mine.recOf Mine.pw 15) (i := 6) (by kernel_rfl) (by kernel_rfl) rfl rfl (fun pm code doc vs hv => by obtain ⟨a, rfl⟩ := Mine.len1 hv; rfl) rfl rfl (by decide +kernel)
      f_is_plain := Mine.FnAt.ofTop T _ w (Mine.recOf Mine.pw 16) (i := 7) (by kernel_rfl) (by kernel_rfl) rfl rfl (fun pm code doc vs hv => by obtain ⟨a, rfl⟩ := Mine.len1 hv; rfl) rfl rfl (by decide +kernel)
      f_need_plain := Mine.FnAt.ofTop T _ w (Mine.recOf Mine.pw 17) (i := 8) (by kernel_rfl) (by kernel_rfl) rfl rfl (fun pm code doc vs hv => by obtain ⟨a, rfl⟩ := Mine.len1 hv; rfl) rfl rfl (by decide +kernel)
      f_placed := Mine.FnAt.ofTop T _ w (Mine.recOf Mine.pw 18) (i := 9) (by kernel_rfl) (by kernel_rfl) rfl rfl (fun pm code doc vs hv => by obtain ⟨a, b, c, rfl⟩ := Mine.len3 hv; rfl) rfl rfl (by decide +kernel)
      f_put := Mine.FnAt.ofTop T _ w (Mine.recOf Mine.pw 19) (i := 10) (by kernel_rfl) (by kernel_rfl) rfl rfl (fun pm code doc vs hv => by obtain ⟨a, b, c, rfl⟩ := Mine.len3 hv; rfl) rfl rfl (by decide +kernel)
      f_cell_at := Mine.FnAt.ofTop T _ w (Mine.recOf Mine.pw 21) (i := 11) (by kernel_rfl) (by kernel_rfl) rfl rfl (fun pm code doc vs hv => by obtain ⟨a, b, rfl⟩ := Mine.len2 hv; rfl) rfl rfl (by decide +kernel)
      f_whole := Mine.FnAt.ofTop T _ w (Mine.recOf Mine.pw 22) (i := 12) (by kernel_rfl) (by kernel_rfl) rfl rfl (fun pm code doc vs hv => by obtain ⟨a, rfl⟩ := Mine.len1 hv; rfl) rfl rfl (by decide +kernel)
      f_names_by := Mine.FnAt.ofTop T _ w (Mine.recOf Mine.pw 23) (i := 13) (by kernel_rfl) (by kernel_rfl) rfl rfl (fun pm code doc vs hv => by obtain ⟨a, rfl⟩ := Mine.len1 hv; rfl) rfl rfl (by decide +kernel)
      f_sum_by := Mine.FnAt.ofTop T _ w (Mine.recOf Mine.pw 24) (i := 14) (by kernel_rfl) (by kernel_rfl) rfl rfl (fun pm code doc vs hv => by obtain ⟨a, b, c, rfl⟩ := Mine.len3 hv; rfl) rfl rfl (by decide +kernel)
      f_end_by := Mine.FnAt.ofTop T _ w (Mine.recOf Mine.pw 25) (i := 15) (by kernel_rfl) (by kernel_rfl) rfl rfl (fun pm code doc vs hv => by obtain ⟨a, b, c, d, rfl⟩ := Mine.len4 hv; rfl) rfl rfl (by decide +kernel)
      f_plain_by := Mine.FnAt.ofTop T _ w (Mine.recOf Mine.pw 26) (i := 16) (by kernel_rfl) (by kernel_rfl) rfl rfl (fun pm code doc vs hv => by obtain ⟨a, b, c, d, e, f, rfl⟩ := Mine.len6 hv; rfl) rfl rfl (by decide +kernel)
      f_word_of := Mine.FnAt.ofTop T _ w (Mine.recOf Mine.pw 27) (i := 17) (by kernel_rfl) (by kernel_rfl) rfl rfl (fun pm code doc vs hv => by obtain ⟨a, rfl⟩ := Mine.len1 hv; rfl) rfl rfl (by decide +kernel)
      f_alike := Mine.FnAt.ofTop T _ w (Mine.recOf Mine.pw 28) (i := 18) (by kernel_rfl) (by kernel_rfl) rfl rfl (fun pm code doc vs hv => by obtain ⟨a, b, rfl⟩ := Mine.len2 hv; rfl) rfl rfl (by decide +kernel)
      f_bound_by := Mine.FnAt.ofTop T _ w (Mine.recOf Mine.pw 29) (i := 19) (by kernel_rfl) (by kernel_rfl) rfl rfl (fun pm code doc vs hv => by obtain ⟨a, b, c, rfl⟩ := Mine.len3 hv; rfl) rfl rfl (by decide +kernel)
      f_sum_put := Mine.FnAt.ofTop T _ w (Mine.recOf Mine.pw 30) (i := 20) (by kernel_rfl) (by kernel_rfl) rfl rfl (fun pm code doc vs hv => by obtain ⟨a, b, c, rfl⟩ := Mine.len3 hv; rfl) rfl rfl (by decide +kernel)
      f_lput := Mine.FnAt.ofTop T _ w (Mine.recOf Mine.pw 31) (i := 21) (by kernel_rfl) (by kernel_rfl) rfl rfl (fun pm code doc vs hv => by obtain ⟨a, b, c, rfl⟩ := Mine.len3 hv; rfl) rfl rfl (by decide +kernel)
      f_refused := Mine.FnAt.ofTop T _ w (Mine.recOf Mine.pw 32) (i := 22) (by kernel_rfl) (by kernel_rfl) rfl rfl (fun pm code doc vs hv => by obtain ⟨a, b, c, rfl⟩ := Mine.len3 hv; rfl) rfl rfl (by decide +kernel)
      f_law := Mine.FnAt.ofTop T _ w (Mine.recOf Mine.pw 33) (i := 23) (by kernel_rfl) (by kernel_rfl) rfl rfl (fun pm code doc vs hv => by obtain ⟨a, rfl⟩ := Mine.len1 hv; rfl) rfl rfl (by decide +kernel)
      b_ValueError := T.free _ (by decide +kernel) (by decide +kernel) (by decide +kernel) (by decide +kernel) (by decide +kernel)
      b_bool := T.free _ (by decide +kernel) (by decide +kernel) (by decide +kernel) (by decide +kernel) (by decide +kernel)
      b_int := T.free _ (by decide +kernel) (by decide +kernel) (by decide +kernel) (by decide +kernel) (by decide +kernel)
      b_isinstance := T.free _ (by decide +kernel) (by decide +kernel) (by decide +kernel) (by decide +kernel) (by decide +kernel)
      b_len := T.free _ (by decide +kernel) (by decide +kernel) (by decide +kernel) (by decide +kernel) (by decide +kernel)
      b_list := T.free _ (by decide +kernel) (by decide +kernel) (by decide +kernel) (by decide +kernel) (by decide +kernel)
      b_range := T.free _ (by decide +kernel) (by decide +kernel) (by decide +kernel) (by decide +kernel) (by decide +kernel)
      b_set := T.free _ (by decide +kernel) (by decide +kernel) (by decide +kernel) (by decide +kernel) (by decide +kernel)
      b_sorted := T.free _ (by decide +kernel) (by decide +kernel) (by decide +kernel) (by decide +kernel) (by decide +kernel)
      b_str := T.free _ (by decide +kernel) (by decide +kernel) (by decide +kernel) (by decide +kernel) (by decide +kernel)
      b_sum := T.free _ (by decide +kernel) (by decide +kernel) (by decide +kernel) (by decide +kernel) (by decide +kernel)
      b_tuple := T.free _ (by decide +kernel) (by decide +kernel) (by decide +kernel) (by decide +kernel) (by decide +kernel)
  }
  refine Mine.ends T 300 (by decide) (Mine.law_spec (C _) 0 (by omega)) hmg (Mine.script w1 ⟨_, rfl⟩ hl hi) hg ?_ ?_
  · exact Mine.post_ok _ _
  · intro _; rfl
