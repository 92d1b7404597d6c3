import PyProof.Rows.All
import Wide.All
import OpenK.AllK
import Wide.FinOn
import Lean
import PySem.Challenge.RW_uf010003_10
set_option compiler.extract_closed false
set_option genSizeOf false
set_option genInjectivity false

section
open PySem PySem.W PyProof.Rows
set_option Elab.async false
set_option maxRecDepth 100000
namespace Mine

inductive D where
  | none
  | bool (b : Bool)
  | int (i : Int)
  | str (x : Str)
  | tup (l : List D)

mutual
inductive Im (h : Heap) : Value → D → Prop
  | none : Im h .none .none
  | bool (b) : Im h (.bool b) (.bool b)
  | int (i t) : Im h (.int i t) (.int i)
  | str (x t) : Im h (.str x t) (.str x)
  | tup {a o vs n l} : h.get? a = some o → o.cls = .type "tuple" → o.data = .seq vs n → Ims h vs.toList l → Im h (.ref a) (.tup l)
inductive Ims (h : Heap) : List Value → List D → Prop
  | nil : Ims h [] []
  | cons {v vs d ds} : Im h v d → Ims h vs ds → Ims h (v :: vs) (d :: ds)
end

noncomputable def Grow (h h' : Heap) : Prop := ∀ a o vs n, h.get? a = some o → o.cls = .type "tuple" → o.data = .seq vs n → h'.get? a = some o

mutual
theorem Im.grow {h h' : Heap} (g : Grow h h') : ∀ {v d}, Im h v d → Im h' v d
  | _, _, .none => .none
  | _, _, .bool b => .bool b
  | _, _, .int i t => .int i t
  | _, _, .str x t => .str x t
  | _, _, .tup e c dt r => .tup (g _ _ _ _ e c dt) c dt (r.grow g)
theorem Ims.grow {h h' : Heap} (g : Grow h h') : ∀ {vs ds}, Ims h vs ds → Ims h' vs ds
  | _, _, .nil => .nil
  | _, _, .cons a r => .cons (a.grow g) (r.grow g)
end

theorem Ims.length {h : Heap} : ∀ {vs ds}, Ims h vs ds → vs.length = ds.length
  | _, _, .nil => rfl
  | _, _, .cons _ r => by simp [r.length]
theorem Ims.append {h : Heap} : ∀ {vs ds us es}, Ims h vs ds → Ims h us es → Ims h (vs ++ us) (ds ++ es)
  := by
  intro vs
  induction vs with
  | nil => intro ds us es j k; cases j; exact k
  | cons v vs ih => intro ds us es j k; cases j with | cons a r => exact .cons a (ih r k)
theorem Ims.get {h : Heap} : ∀ {vs ds}, Ims h vs ds → ∀ {i : Nat} {d}, ds[i]? = some d → ∃ v, vs[i]? = some v ∧ Im h v d
  := by
  intro vs
  induction vs with
  | nil => intro ds k i d e; cases k; simp at e
  | cons v vs ih =>
    intro ds k i d e
    cases k with
    | cons a r => cases i with
      | zero => simp at e; subst e; exact ⟨_, rfl, a⟩
      | succ i => simpa using ih r (by simpa using e)
theorem Ims.drop {h : Heap} : ∀ {vs ds}, Ims h vs ds → ∀ n, Ims h (vs.drop n) (ds.drop n)
  | _, _, k, 0 => k
  | _, _, .nil, n + 1 => .nil
  | _, _, .cons _ r, n + 1 => r.drop n
inductive Cont where
  | lst (l : List D)
  | dct (l : List (Str × D))
  | rng (a b : Int)
  | exc (c : Str)
  | pair (d : D) (l : List D)

structure Bs where
  prog : Program
  w : World
  hB : Heap
  mg : Str → Option Value
  mb : Str → Option Value
  g : hB.Ns mainGlobals mg
  b : hB.Ns builtinsNs mb
  bu : ∀ x : Str, x ≠ "__name__" → mb x = bootBuiltins x
  lim : hB.NoLimit
  quiet : Bool


inductive KVs (h : Heap) : List (Str × Value) → List (Str × D) → Prop
  | nil : KVs h [] []
  | cons {k v d kvs l} : Im h v d → KVs h kvs l → KVs h ((k, v) :: kvs) ((k, d) :: l)

theorem KVs.grow {h h' : Heap} (g : Grow h h') : ∀ {kvs l}, KVs h kvs l → KVs h' kvs l
  | _, _, .nil => .nil
  | _, _, .cons a r => .cons (a.grow g) (r.grow g)

noncomputable def ContAt (B : Bs) (h : Heap) (a : Addr) : Cont → Prop
  | .lst l => ∃ o vs n, h.get? a = some o ∧ (o.cls = .type "list" ∧ o.dict = none) ∧ o.data = .seq vs n ∧ Ims h vs.toList l
  | .dct l => (a == sysModules) = false ∧ ∃ kvs, h.DictOf (strKind B.prog B.w) a kvs ∧ KVs h kvs l
  | .rng x y => ∃ t u v, IsRange h a x y 1 t u v
  | .exc c => ∃ o C vs, h.get? a = some o ∧ B.mg c = some (.ref C) ∧ o.cls = .ref C ∧ o.data = .fields vs
  | .pair _ l => ∃ o vs n, h.get? a = some o ∧ (o.cls = .type "list" ∧ o.dict = none) ∧ o.data = .seq vs n ∧ Ims h vs.toList l
noncomputable def Vw (h : Heap) (v : Value) (a : Addr) : Cont → Prop
  | .pair d _ => ∃ t o n v0, v = .ref t ∧ h.get? t = some o ∧ o.cls = .type "tuple" ∧ o.data = .seq #[v0, .ref a] n ∧ Im h v0 d
  | _ => v = .ref a
theorem Vw.grow {h h' : Heap} {v : Value} {a : Addr} {c : Cont} (g : Grow h h') (x : Vw h v a c) : Vw h' v a c := by
  cases c with
  | pair d l => obtain ⟨t, o, n, v0, h1, h2, h3, h4, h5⟩ := x; exact ⟨t, o, n, v0, h1, g _ _ _ _ h2 h3 h4, h3, h4, h5.grow g⟩
  | _ => exact x
theorem Vw.ref {h : Heap} {v : Value} {a : Addr} {c : Cont} (x : Vw h v a c) : ∃ t, v = .ref t := by
  cases c with
  | pair d l => obtain ⟨t, o, n, v0, h1, _⟩ := x; exact ⟨t, h1⟩
  | _ => exact ⟨a, x⟩

inductive Md where
  | fz
  | fr
  | ow (i : Nat)
inductive AV where
  | im (d : D)
  | ct (m : Md) (c : Cont)
inductive Sl where
  | im (d : D)
  | fz (c : Cont)
  | own (c : Cont) (m : Option Addr := none)

structure KpW (B : Bs) (W : Addr → Prop) (s s' : Shared) : Prop where
  keep : ∀ b o, s.heap.get? b = some o → ¬ W b → (o.cls ≠ .type "frame" ∨ (B.hB.get? b).isSome = true) → s'.heap.get? b = some o
  data : ∀ b o, s.heap.get? b = some o → ¬ W b → ∃ sl, s'.heap.get? b = some { o with slots := sl }
  tups : Grow s.heap s'.heap
  live : ∀ b o, s.heap.get? b = some o → ∃ o', s'.heap.get? b = some o' ∧ ((∀ vs, o.data ≠ .fields vs) → ∀ vs, o'.data ≠ .fields vs) ∧
    ((∃ es ep, o.data = .dict es ep) → o'.cls = o.cls ∧ ∃ es ep, o'.data = .dict es ep)
  gens : s'.gens = s.gens
  os : s'.os = s.os
noncomputable abbrev Kp (B : Bs) (s s' : Shared) : Prop := KpW B (fun _ => False) s s'

theorem KpW.refl {B W} (s : Shared) : KpW B W s s := ⟨fun _ _ e _ _ => e, fun _ o e _ => ⟨o.slots, e⟩, fun _ _ _ _ e _ _ => e, fun _ o e => ⟨o, e, fun x => x, fun x => ⟨rfl, x⟩⟩, rfl, rfl⟩
theorem Kp.of {B : Bs} {s : Shared} {h' : Heap} {t : Nat} (k : ∀ b o, s.heap.get? b = some o → h'.get? b = some o) : Kp B s { s with heap := h', toks := t } :=
  ⟨fun b o e _ _ => k b o e, fun b o e _ => ⟨o.slots, k b o e⟩, fun b o _ _ e _ _ => k b o e, fun b o e => ⟨o, k b o e, fun x => x, fun x => ⟨rfl, x⟩⟩, rfl, rfl⟩
theorem Kp.toks {B : Bs} {s : Shared} {t : Nat} : Kp B s { s with toks := t } := Kp.of (h' := s.heap) fun _ _ e => e
theorem KpW.mono {B W W'} {s s' : Shared} (k : KpW B W s s') (h : ∀ b, W b → W' b) : KpW B W' s s' :=
  ⟨fun b o e nw => k.keep b o e (fun x => nw (h b x)), fun b o e nw => k.data b o e (fun x => nw (h b x)), k.tups, k.live, k.gens, k.os⟩
theorem Kp.toW {B W} {s s' : Shared} (k : Kp B s s') : KpW B W s s' := k.mono fun _ x => x.elim
theorem KpW.trans {B W W'} {s s' s'' : Shared} (k : KpW B W s s') (k' : KpW B W' s' s'') (h : ∀ b, W' b → W b ∨ s.heap.get? b = none) : KpW B W s s'' := by
  refine ⟨fun b o e nw hf => ?_, fun b o e nw => ?_, fun b o vs n e c d => k'.tups b o vs n (k.tups b o vs n e c d) c d, fun b o e => ?_, k'.gens.trans k.gens, k'.os.trans k.os⟩
  · refine k'.keep b o (k.keep b o e nw hf) (fun x => ?_) hf
    rcases h b x with y | y
    · exact nw y
    · rw [y] at e; cases e
  · obtain ⟨sl, e1⟩ := k.data b o e nw
    obtain ⟨sl', e2⟩ := k'.data b _ e1 (fun x => by
      rcases h b x with y | y
      · exact nw y
      · rw [y] at e; cases e)
    exact ⟨sl', e2⟩
  · obtain ⟨o1, e1, d1, c1⟩ := k.live b o e
    obtain ⟨o2, e2, d2, c2⟩ := k'.live b o1 e1
    exact ⟨o2, e2, fun x => d2 (d1 x), fun x => ⟨((c2 (c1 x).2).1).trans (c1 x).1, (c2 (c1 x).2).2⟩⟩
theorem Kp.trans {B} {s s' s'' : Shared} (k : Kp B s s') (k' : Kp B s' s'') : Kp B s s'' := KpW.trans k k' fun _ x => x.elim
theorem Kp.fresh {B} {s s' : Shared} (k : Kp B s s') {a : Addr} (h : s'.heap.get? a = none) : s.heap.get? a = none := by
  cases e : s.heap.get? a with
  | none => rfl
  | some o => obtain ⟨o', e', _⟩ := k.live a o e; rw [h] at e'; cases e'

theorem ContAt.of_same {B : Bs} {h h' : Heap} {a : Addr} {c : Cont} (x : ContAt B h a c) (e : ∀ o, h.get? a = some o → o.cls ≠ .type "frame" → h'.get? a = some o) (g : Grow h h') : ContAt B h' a c := by
  cases c with
  | lst l =>
    obtain ⟨o, vs, n, ho, hc, hd, hi⟩ := x
    exact ⟨o, vs, n, e o ho (by rw [hc.1]; decide), hc, hd, hi.grow g⟩
  | dct l =>
    obtain ⟨hs, kvs, ⟨o, es, ep, ho, hc, r⟩, hk⟩ := x
    exact ⟨hs, kvs, ⟨o, es, ep, e o ho (by rw [hc.1]; decide), hc, r⟩, hk.grow g⟩
  | rng x y =>
    obtain ⟨t, u, v, ho⟩ := x
    exact ⟨t, u, v, e _ ho (by show Value.type "range" ≠ _; decide)⟩
  | exc c =>
    obtain ⟨o, C, vs, ho, hm, hc, hd⟩ := x
    exact ⟨o, C, vs, e o ho (by rw [hc]; intro q; cases q), hm, hc, hd⟩
  | pair d l =>
    obtain ⟨o, vs, n, ho, hc, hd, hi⟩ := x
    exact ⟨o, vs, n, e o ho (by rw [hc.1]; decide), hc, hd, hi.grow g⟩
theorem ContAt.kp {B : Bs} {W} {s s' : Shared} {a : Addr} {c : Cont} (k : KpW B W s s') (nw : ¬ W a) (x : ContAt B s.heap a c) : ContAt B s'.heap a c :=
  x.of_same (fun o e f => k.keep a o e nw (.inl f)) k.tups
theorem ContAt.exists {B : Bs} {h : Heap} {a : Addr} {c : Cont} (x : ContAt B h a c) : ∃ o, h.get? a = some o := by
  cases c with
  | lst l => (obtain ⟨o, _, _, ho, _⟩ := x; exact ⟨o, ho⟩)
  | dct l => (obtain ⟨_, _, ⟨o, _, _, ho, _⟩, _⟩ := x; exact ⟨o, ho⟩)
  | rng _ _ => (obtain ⟨_, _, _, ho⟩ := x; exact ⟨_, ho⟩)
  | exc _ => (obtain ⟨o, _, _, ho, _⟩ := x; exact ⟨o, ho⟩)
  | pair _ _ => (obtain ⟨o, _, _, ho, _⟩ := x; exact ⟨o, ho⟩)

inductive Kd where
  | loc
  | cel
  | fre
  deriving DecidableEq
noncomputable def Kd.kind : Kd → NameKind
  | .loc => .local
  | .cel => .cell
  | .fre => .free
noncomputable def fiOk (sc : Scope) (vars : List (Str × Kd)) : Bool :=
  decide (sc.kind = .function) && decide (vars.map (·.1)).Nodup && vars.all fun x => decide (sc.names.lookup x.1 = some x.2.kind) && !(x.1 == ("__debug__" : Str)) && !(x.1 == ("__classdict__" : Str))
structure Fi where
  scope : Scope
  vars : List (Str × Kd)
  own : Nat
  ok : fiOk scope vars = true

theorem Fi.fn (F : Fi) : F.scope.kind = .function := by
  have := F.ok; simp only [fiOk, Bool.and_eq_true, decide_eq_true_eq] at this; exact this.1.1
theorem Fi.nodup (F : Fi) : (F.vars.map (·.1)).Nodup := by
  have := F.ok; simp only [fiOk, Bool.and_eq_true, decide_eq_true_eq] at this; exact this.1.2
theorem Fi.at (F : Fi) {i : Nat} {x : Str} {k : Kd} (h : F.vars[i]? = some (x, k)) : F.scope.names.lookup x = some k.kind ∧ (x == ("__debug__" : Str)) = false ∧ (x == ("__classdict__" : Str)) = false := by
  have := F.ok
  simp only [fiOk, Bool.and_eq_true, List.all_eq_true] at this
  have := this.2 _ (List.mem_of_getElem? h)
  simpa [and_assoc] using this
theorem Fi.inj (F : Fi) {i j : Nat} {x : Str} {k k' : Kd} (h : F.vars[i]? = some (x, k)) (h' : F.vars[j]? = some (x, k')) : i = j := by
  have hi : i < (F.vars.map (·.1)).length := by rw [List.length_map]; exact (List.getElem?_eq_some_iff.mp h).1
  refine (List.getElem?_inj hi F.nodup).mp ?_
  rw [List.getElem?_map, List.getElem?_map, h, h']; rfl

noncomputable def VarAt (env : Env) (h : Heap) (x : Str) : Kd → Value → Prop
  | .loc, v => ∃ m, h.Ns env.locals m ∧ m x = some v
  | _, v => ∃ c, env.cells.lookup x = some c ∧ h.IsCell c (some v)

noncomputable def Priv (env : Env) (a : Addr) : Prop := a = env.locals ∨ (env.locals < a ∧ a ∈ env.cells.map (·.2))
noncomputable def FW (env : Env) (oa : Nat → Option Addr) (a : Addr) : Prop := Priv env a ∨ ∃ i, oa i = some a

noncomputable def VarV (env : Env) (h : Heap) (x : Str) (k : Kd) (a : Addr) : Cont → Prop
  | .pair d l => ∃ v, VarAt env h x k v ∧ Vw h v a (.pair d l)
  | _ => VarAt env h x k (.ref a)
theorem VarV.get {env : Env} {h : Heap} {x : Str} {k : Kd} {a : Addr} {c : Cont} (y : VarV env h x k a c) : ∃ v, VarAt env h x k v ∧ Vw h v a c := by
  cases c with
  | pair d l => exact y
  | _ => exact ⟨_, y, rfl⟩
theorem VarV.of {env : Env} {h : Heap} {x : Str} {k : Kd} {a : Addr} {c : Cont} {v : Value} (y : VarAt env h x k v) (z : Vw h v a c) : VarV env h x k a c := by
  cases c with
  | pair d l => exact ⟨v, y, z⟩
  | _ => (have z : v = .ref a := z; subst z; exact y)
noncomputable def SlotOk (B : Bs) (env : Env) (oa : Nat → Option Addr) (h : Heap) (i : Nat) (x : Str) (k : Kd) : Sl → Prop
  | .im d => ∃ v, VarAt env h x k v ∧ Im h v d
  | .fz c => ∃ a, VarV env h x k a c ∧ ContAt B h a c ∧ ¬ FW env oa a
  | .own c m => ∃ a, VarV env h x k a c ∧ ContAt B h a c ∧ oa i = some a ∧ ∀ b, m = some b → b = a

structure Rp (B : Bs) (F : Fi) (env : Env) (oa : Nat → Option Addr) (ρ : List (Option Sl)) (s : Shared) : Prop where
  base : ∀ b o, B.hB.get? b = some o → s.heap.get? b = some o
  scope : env.scope = F.scope
  globals : env.globals = mainGlobals
  builtins : env.builtins = builtinsNs
  ns : ∃ m, s.heap.Ns env.locals m
  cells : ∀ (i : Nat) x k, F.vars[i]? = some (x, k) → k ≠ Kd.loc → ∃ c v, env.cells.lookup x = some c ∧ s.heap.IsCell c v ∧ (i < F.own → env.locals < c)
  apart : ∀ x y c, env.cells.lookup x = some c → env.cells.lookup y = some c → x = y
  locCell : ∀ x c, (x, c) ∈ env.cells → c ≠ env.locals
  cellsLive : ∀ x c, (x, c) ∈ env.cells → ∃ v, s.heap.IsCell c v
  privNew : ∀ a, a = env.locals ∨ (∃ x, (x, a) ∈ env.cells) → B.hB.get? a = none
  slots : ∀ (i : Nat) x k sl, F.vars[i]? = some (x, k) → ρ[i]? = some (some sl) → SlotOk B env oa s.heap i x k sl
  oinj : ∀ i j a, oa i = some a → oa j = some a → i = j
  opriv : ∀ i a, oa i = some a → ¬ Priv env a ∧ B.hB.get? a = none ∧ ∃ o, s.heap.get? a = some o


theorem VarAt.keep {env : Env} {h h' : Heap} {x : Str} {k : Kd} {v : Value} (e : ∀ b o, h.get? b = some o → ∃ sl, h'.get? b = some { o with slots := sl }) (y : VarAt env h x k v) : VarAt env h' x k v := by
  have hc : ∀ c v, h.IsCell c v → h'.IsCell c v := fun c v hz1 => by obtain ⟨o, ho, hd⟩ := hz1; (obtain ⟨sl, ho'⟩ := e c o ho; exact ⟨_, ho', hd⟩)
  cases k with
  | loc =>
    obtain ⟨m, hn, hm⟩ := y
    obtain ⟨o, es, ep, ho, r⟩ := hn
    obtain ⟨sl, ho'⟩ := e _ o ho
    exact ⟨m, ⟨_, es, ep, ho', r⟩, hm⟩
  | cel => (obtain ⟨c, h1, h2⟩ := y; exact ⟨c, h1, hc _ _ h2⟩)
  | fre => (obtain ⟨c, h1, h2⟩ := y; exact ⟨c, h1, hc _ _ h2⟩)

theorem VarV.map {env env' : Env} {h h' : Heap} {x x' : Str} {k k' : Kd} {a : Addr} {c : Cont} (y : VarV env h x k a c) (f : ∀ v, VarAt env h x k v → VarAt env' h' x' k' v) (g : Grow h h') : VarV env' h' x' k' a c := by
  obtain ⟨v, y1, y2⟩ := y.get
  exact .of (f v y1) (y2.grow g)
theorem VarV.keep {env : Env} {h h' : Heap} {x : Str} {k : Kd} {a : Addr} {c : Cont} (e : ∀ b o, h.get? b = some o → ∃ sl, h'.get? b = some { o with slots := sl }) (g : Grow h h') (y : VarV env h x k a c) : VarV env h' x k a c := by
  obtain ⟨v, y1, y2⟩ := y.get
  exact .of (y1.keep e) (y2.grow g)
theorem SlotOk.kp {B : Bs} {env oa i x k} {s s' : Shared} {sl : Sl} (q : Kp B s s') (y : SlotOk B env oa s.heap i x k sl) : SlotOk B env oa s'.heap i x k sl := by
  have e : ∀ b o, s.heap.get? b = some o → ∃ sl, s'.heap.get? b = some { o with slots := sl } := fun b o h => q.data b o h (fun x => x)
  cases sl with
  | im d => (obtain ⟨v, h1, h2⟩ := y; exact ⟨v, h1.keep e, h2.grow q.tups⟩)
  | fz c => (obtain ⟨a, h1, h2, h3⟩ := y; exact ⟨a, h1.keep e q.tups, h2.kp q (fun x => x), h3⟩)
  | own c => (obtain ⟨a, h1, h2, h3⟩ := y; exact ⟨a, h1.keep e q.tups, h2.kp q (fun x => x), h3⟩)

theorem Ns.slots {h h' : Heap} {L : Addr} {m} (e : ∀ b o, h.get? b = some o → ∃ sl, h'.get? b = some { o with slots := sl }) (y : h.Ns L m) : h'.Ns L m := by
  obtain ⟨o, es, ep, ho, r⟩ := y
  obtain ⟨sl, ho'⟩ := e _ o ho
  exact ⟨_, es, ep, ho', r⟩

theorem Rp.kp {B F env oa ρ} {s s' : Shared} (R : Rp B F env oa ρ s) (k : Kp B s s') : Rp B F env oa ρ s' := by
  have e : ∀ b o, s.heap.get? b = some o → ∃ sl, s'.heap.get? b = some { o with slots := sl } := fun b o h => k.data b o h (fun x => x)
  refine ⟨fun b o h => k.keep b o (R.base b o h) (fun x => x) (.inr (by rw [h]; rfl)), R.scope, R.globals, R.builtins, ?_, ?_, R.apart, R.locCell, fun x c h => ?_, R.privNew, fun i x kd sl h1 h2 => (R.slots i x kd sl h1 h2).kp k, R.oinj, ?_⟩
  · (obtain ⟨m, h⟩ := R.ns; exact ⟨m, Ns.slots e h⟩)
  · intro i x kd h1 h2
    obtain ⟨c, v, h3, ⟨o, ho, hd⟩, hw⟩ := R.cells i x kd h1 h2
    obtain ⟨sl, ho'⟩ := e c o ho
    exact ⟨c, v, h3, ⟨_, ho', hd⟩, hw⟩
  · obtain ⟨v, o, ho, hd⟩ := R.cellsLive x c h
    obtain ⟨sl, ho'⟩ := e c o ho
    exact ⟨v, _, ho', hd⟩
  · intro i a h
    obtain ⟨h1, h2, o, ho⟩ := R.opriv i a h
    exact ⟨h1, h2, by obtain ⟨o', ho', _⟩ := k.live a o ho; exact ⟨o', ho'⟩⟩

structure Ar (B : Bs) (A : Around) (n : Nat) (s : Shared) : Prop where
  depth : A.depth + n < recursionLimit
  units : A.units + 10 * n < cLine
  handled : B.quiet = true → A.handled = none
  frames : ∃ l, A.frames = some l ∧ s.heap.FunFrames B.hB l ∧ ∀ L ∈ l.filterMap (·.frame), ∃ o es ep, s.heap.get? L = some o ∧ o.cls = .type "frame" ∧ o.data = .dict es ep
theorem FunFrames.kp {B : Bs} {W} {s s' : Shared} (k : KpW B W s s') : ∀ {l : List Env}, s.heap.FunFrames B.hB l → s'.heap.FunFrames B.hB l
  | [], _ => trivial
  | env :: rest, ⟨hk, ⟨L, o, hf, hn, ho, hd⟩, hr⟩ => by
    obtain ⟨o', ho', hd', _⟩ := k.live L o ho
    exact ⟨hk, ⟨L, o', hf, hn, ho', hd' hd⟩, FunFrames.kp k hr⟩
theorem Ar.kp {B A n} {s s' : Shared} {W} (a : Ar B A n s) (k : KpW B W s s') : Ar B A n s' :=
  ⟨a.depth, a.units, a.handled, by obtain ⟨l, h1, h2, h3⟩ := a.frames; exact ⟨l, h1, FunFrames.kp k h2, fun L hL => by
    obtain ⟨o, es, ep, ho, hc, hd⟩ := h3 L hL
    obtain ⟨o', ho', _, h4⟩ := k.live L o ho
    obtain ⟨hc', es', ep', hd'⟩ := h4 ⟨es, ep, hd⟩
    exact ⟨o', es', ep', ho', hc'.trans hc, hd'⟩⟩⟩
theorem Ar.le {B A n m} {s : Shared} (a : Ar B A n s) (h : m ≤ n) : Ar B A m s :=
  ⟨by have := a.depth; (first | lia | omega), by have := a.units; (first | lia | omega), a.handled, a.frames⟩
theorem Ar.un {B A n} {s : Shared} (a : Ar B A n s) : A.units < cLine := by have := a.units; (first | lia | omega)

noncomputable def Fly (B : Bs) (s : Shared) (cls : Value) (a : Addr) (h : Heap) : Prop :=
  s.heap.get? a = none ∧ ∃ o vs, h.get? a = some o ∧ o.cls = cls ∧ o.data = .fields vs ∧ 5 ≤ vs.size ∧
    (vs[1]? = some .none ∨ ∃ T oT ts, vs[1]? = some (.ref T) ∧ T ≠ a ∧ s.heap.get? T = none ∧ h.get? T = some oT ∧ oT.cls = .type "traceback" ∧ oT.data = .fields ts ∧ 4 ≤ ts.size)
noncomputable def EPW (B : Bs) (W : Addr → Prop) (X : Str → Prop) (s : Shared) (e : Value) (s' : Shared) : Prop :=
  ∃ c cv a, X c ∧ B.mg c = some cv ∧ e = .ref a ∧ KpW B W s s' ∧ Fly B s cv a s'.heap
noncomputable abbrev EP (B : Bs) (X : Str → Prop) (s : Shared) (e : Value) (s' : Shared) : Prop := EPW B (fun _ => False) X s e s'

theorem Fly.back {B : Bs} {W} {s s1 : Shared} {cls a h} (k : KpW B W s s1) (f : Fly B s1 cls a h) : Fly B s cls a h := by
  have fr : ∀ b, s1.heap.get? b = none → s.heap.get? b = none := fun b hb => by
    cases e : s.heap.get? b with
    | none => rfl
    | some o => obtain ⟨o', e', _⟩ := k.live b o e; rw [hb] at e'; cases e'
  obtain ⟨h1, o, vs, h2, h3, h4, h5, h6⟩ := f
  exact ⟨fr _ h1, o, vs, h2, h3, h4, h5, h6.imp (fun x => x) fun hz2 => by obtain ⟨T, oT, ts, q1, q2, q3, q⟩ := hz2; exact ⟨T, oT, ts, q1, q2, fr _ q3, q⟩⟩
theorem EP.back {B X} {s s1 : Shared} {e s'} (k : Kp B s s1) (x : EP B X s1 e s') : EP B X s e s' :=
  by obtain ⟨c, cv, a, h1, h2, h3, h4, h5⟩ := x; exact ⟨c, cv, a, h1, h2, h3, Kp.trans k h4, h5.back k⟩
theorem EP.toW {B W X} {s : Shared} {e s'} (x : EP B X s e s') : EPW B W X s e s' :=
  by obtain ⟨c, cv, a, h1, h2, h3, h4, h5⟩ := x; exact ⟨c, cv, a, h1, h2, h3, Kp.toW h4, h5⟩

noncomputable def VR (B : Bs) (env : Env) (oa : Nat → Option Addr) (s s' : Shared) (v : Value) : AV → Prop
  | .im d => Im s'.heap v d
  | .ct .fz c => ∃ a, Vw s'.heap v a c ∧ ContAt B s'.heap a c ∧ ¬ FW env oa a
  | .ct .fr c => ∃ a, Vw s'.heap v a c ∧ ContAt B s'.heap a c ∧ s.heap.get? a = none
  | .ct (.ow i) c => ∃ a, Vw s'.heap v a c ∧ ContAt B s'.heap a c ∧ oa i = some a
theorem VR.kp {B env oa} {s s' s'' : Shared} {v : Value} {r : AV} (x : VR B env oa s s' v r) (k : Kp B s' s'') : VR B env oa s s'' v r := by
  cases r with
  | im d => exact Im.grow k.tups x
  | ct m c => cases m with
    | fz => (obtain ⟨a, h1, h2, h3⟩ := x; exact ⟨a, h1.grow k.tups, h2.kp k (fun x => x), h3⟩)
    | fr => (obtain ⟨a, h1, h2, h3⟩ := x; exact ⟨a, h1.grow k.tups, h2.kp k (fun x => x), h3⟩)
    | ow i => (obtain ⟨a, h1, h2, h3⟩ := x; exact ⟨a, h1.grow k.tups, h2.kp k (fun x => x), h3⟩)
theorem VR.back {B env oa} {s s1 s' : Shared} {v : Value} {r : AV} (k : Kp B s s1) (x : VR B env oa s1 s' v r) : VR B env oa s s' v r := by
  cases r with
  | im d => exact x
  | ct m c => cases m with
    | fz => exact x
    | fr => (obtain ⟨a, h1, h2, h3⟩ := x; exact ⟨a, h1, h2, k.fresh h3⟩)
    | ow i => exact x
theorem VR.cont {B env oa} {s s' : Shared} {v : Value} {m : Md} {c : Cont} (x : VR B env oa s s' v (.ct m c)) : ∃ a, Vw s'.heap v a c ∧ ContAt B s'.heap a c := by
  cases m with
  | fz => (obtain ⟨a, h1, h2, _⟩ := x; exact ⟨a, h1, h2⟩)
  | fr => (obtain ⟨a, h1, h2, _⟩ := x; exact ⟨a, h1, h2⟩)
  | ow i => (obtain ⟨a, h1, h2, _⟩ := x; exact ⟨a, h1, h2⟩)

structure EW (B : Bs) (F : Fi) (X : Str → Prop) (n : Nat) (ρ : List (Option Sl)) (e : Expr) (Q : AV → Prop) : Prop where
  go : ∀ env oa A s, Rp B F env oa ρ s → Ar B A n s →
    wpAny (model B.prog B.w) A (eval e env) (fun v s' => ∃ r, Q r ∧ Kp B s s' ∧ VR B env oa s s' v r) (EP B X s) s
structure TW (B : Bs) (F : Fi) (X : Str → Prop) (n : Nat) (ρ : List (Option Sl)) (e : Expr) (Q : Bool → Prop) : Prop where
  go : ∀ env oa A s, Rp B F env oa ρ s → Ar B A n s →
    wpAny (model B.prog B.w) A (isTrue e env (eval e env)) (fun b s' => Q b ∧ Kp B s s') (EP B X s) s

section
variable {B : Bs} {F : Fi} {X : Str → Prop} {n : Nat} {ρ : List (Option Sl)}
theorem EW.mono {e : Expr} {Q Q' : AV → Prop} (h : EW B F X n ρ e Q) (q : ∀ r, Q r → Q' r) : EW B F X n ρ e Q' :=
  .mk fun env oa A s R a => wpAny_mono (h.go env oa A s R a) (fun _ _ hz3 => by obtain ⟨r, h1, h2⟩ := hz3; exact ⟨r, q r h1, h2⟩) fun _ _ x => x
end

end Mine
end

section
open PySem PySem.W PyProof.Rows
set_option Elab.async false
set_option maxRecDepth 100000
set_option linter.unusedVariables false
namespace Mine

section
variable {B : Bs} {F : Fi} {X : Str → Prop} {n : Nat} {ρ : List (Option Sl)}

theorem Kp.refl (s : Shared) : Kp B s s := KpW.refl s

theorem EW.run {e : Expr} {Q : AV → Prop} (h : EW B F X n ρ e Q) {env oa A s0 s} {P : Value → Shared → Prop} (R : Rp B F env oa ρ s) (a : Ar B A n s) (k0 : Kp B s0 s)
    (c : ∀ v s' r, Q r → Kp B s s' → VR B env oa s s' v r → P v s') : wpAny (model B.prog B.w) A (eval e env) P (EP B X s0) s :=
  wpAny_mono (h.go env oa A s R a) (fun v s' hz1 => by obtain ⟨r, q, k, x⟩ := hz1; exact c v s' r q k x) fun _ _ x => x.back k0
theorem TW.run {e : Expr} {Q : Bool → Prop} (h : TW B F X n ρ e Q) {env oa A s0 s} {P : Bool → Shared → Prop} (R : Rp B F env oa ρ s) (a : Ar B A n s) (k0 : Kp B s0 s)
    (c : ∀ b s', Q b → Kp B s s' → P b s') : wpAny (model B.prog B.w) A (isTrue e env (eval e env)) P (EP B X s0) s :=
  wpAny_mono (h.go env oa A s R a) (fun v s' hz2 => by obtain ⟨q, k⟩ := hz2; exact c v s' q k) fun _ _ x => x.back k0
theorem TW.mono {e : Expr} {Q Q' : Bool → Prop} (h : TW B F X n ρ e Q) (q : ∀ r, Q r → Q' r) : TW B F X n ρ e Q' :=
  .mk fun env oa A s R a => wpAny_mono (h.go env oa A s R a) (fun _ _ hz3 => by obtain ⟨h1, h2⟩ := hz3; exact ⟨q _ h1, h2⟩) fun _ _ x => x

theorem EW.cint {i : Int} {k pos} {Q : AV → Prop} (h : Q (.im (.int i))) : EW B F X n ρ (.Constant (.int i) k pos) Q :=
  .mk fun env oa A s R a => wpAny_Constant_int ⟨_, h, Kp.toks, .int _ _⟩
theorem EW.cstr {x : Str} {k pos} {Q : AV → Prop} (h : Q (.im (.str x))) : EW B F X n ρ (.Constant (.str x) k pos) Q :=
  .mk fun env oa A s R a => wpAny_Constant_str ⟨_, h, Kp.toks, .str _ _⟩
theorem EW.cbool {b : Bool} {k pos} {Q : AV → Prop} (h : Q (.im (.bool b))) : EW B F X n ρ (.Constant (.bool b) k pos) Q :=
  .mk fun env oa A s R a => wpAny_Constant_bool ⟨_, h, Kp.refl _, .bool _⟩
theorem EW.cnone {k pos} {Q : AV → Prop} (h : Q (.im .none)) : EW B F X n ρ (.Constant .none k pos) Q :=
  .mk fun env oa A s R a => wpAny_Constant_none ⟨_, h, Kp.refl _, .none⟩

noncomputable def Sl.av (i : Nat) : Sl → AV
  | .im d => .im d
  | .fz c => .ct .fz c
  | .own c _ => .ct (.ow i) c
theorem loadVar {env oa A s x k v} {Q : Value → Shared → Prop} {E} {i : Nat} (R : Rp B F env oa ρ s) (hx : F.vars[i]? = some (x, k)) (hv : VarAt env s.heap x k v) (h : Q v s) {pos} :
    wpAny (model B.prog B.w) A (eval (.Name x pos) env) Q E s := by
  obtain ⟨h1, h2, h3⟩ := F.at hx
  have hk : env.scope.kind = .function := by rw [R.scope]; exact F.fn
  have hl : env.kindOf x = some k.kind := by unfold Env.kindOf; rw [R.scope]; exact h1
  refine wpAny_Name ?_ h2
  cases k with
  | loc => (obtain ⟨m, hn, hm⟩ := hv; exact wpAny_loadName_local hk hl hn hm h)
  | cel => (obtain ⟨c, hc, hm⟩ := hv; exact wpAny_loadName_cell hk hl hc hm h)
  | fre => (obtain ⟨c, hc, hm⟩ := hv; exact wpAny_loadName_free hk hl hc hm h h3)
theorem EW.name {x : Str} {pos} {Q : AV → Prop} (i : Nat) {k : Kd} {sl : Sl} (hx : F.vars[i]? = some (x, k)) (hs : ρ[i]? = some (some sl)) (h : Q (sl.av i)) : EW B F X n ρ (.Name x pos) Q := by
  refine .mk ?_
  intro env oa A s R a
  have y := R.slots i x k sl hx hs
  cases sl with
  | im d => (obtain ⟨v, h1, h2⟩ := y; exact loadVar R hx h1 ⟨_, h, Kp.refl _, h2⟩)
  | fz c => (obtain ⟨v, h1, h2, h3⟩ := y; obtain ⟨u, h4, h5⟩ := h1.get; exact loadVar R hx h4 ⟨_, h, Kp.refl _, v, h5, h2, h3⟩)
  | own c => (obtain ⟨v, h1, h2, h3, _⟩ := y; obtain ⟨u, h4, h5⟩ := h1.get; exact loadVar R hx h4 ⟨_, h, Kp.refl _, v, h5, h2, h3⟩)

noncomputable def Bas (B : Bs) (s : Shared) : Prop := ∀ b o, B.hB.get? b = some o → s.heap.get? b = some o
noncomputable def BinS (B : Bs) (n : Nat) (op : Operator) (x y z : AV) : Prop :=
  ∀ env oa A s0 s vx vy (E : Value → Shared → Prop), Bas B s → Ar B A n s → VR B env oa s0 s vx x → VR B env oa s0 s vy y →
    wpAny (model B.prog B.w) A (binaryOp op vx vy) (fun v s' => Kp B s s' ∧ VR B env oa s s' v z) E s
noncomputable def CmpS (B : Bs) (n : Nat) (op : CmpOp) (x y : AV) (r : Bool) : Prop :=
  ∀ env oa A s0 s vx vy (E : Value → Shared → Prop), Bas B s → Ar B A n s → VR B env oa s0 s vx x → VR B env oa s0 s vy y →
    wpAny (model B.prog B.w) A (compareOp op vx vy) (fun v s' => v = .bool r ∧ Kp B s s') E s
noncomputable def UnS (B : Bs) (n : Nat) (op : UnaryOp) (x z : AV) : Prop :=
  ∀ env oa A s0 s vx (E : Value → Shared → Prop), Bas B s → Ar B A n s → VR B env oa s0 s vx x →
    wpAny (model B.prog B.w) A (unaryOp op vx) (fun v s' => Kp B s s' ∧ VR B env oa s s' v z) E s
noncomputable def TruS (B : Bs) (n : Nat) (x : AV) (r : Bool) : Prop :=
  ∀ env oa A s0 s vx (E : Value → Shared → Prop), Bas B s → Ar B A n s → VR B env oa s0 s vx x →
    wpAny (model B.prog B.w) A (truthy vx) (fun v s' => v = r ∧ Kp B s s') E s

theorem EW.bin {l op r pos} {Q : AV → Prop} (h : EW B F X n ρ l fun x => EW B F X n ρ r fun y => ∃ z, BinS B n op x y z ∧ Q z) : EW B F X n ρ (.BinOp l op r pos) Q :=
  .mk fun env oa A s R a => wpAny_BinOp (h.run R a (Kp.refl _) fun vx s1 rx qx k1 x1 => qx.run (R.kp k1) (a.kp k1) k1 fun vy s2 ry ⟨z, hz, q⟩ k2 x2 =>
    wpAny_mono (hz env oa A s s2 vx vy _ ((R.kp k1).kp k2).base ((a.kp k1).kp k2) (x1.kp k2) (x2.back k1)) (fun v s3 hz5 => by obtain ⟨k3, x3⟩ := hz5; exact ⟨z, q, (k1.trans k2).trans k3, x3.back (k1.trans k2)⟩) fun _ _ x => x)
theorem EW.cmp {l op r pos} {Q : AV → Prop} (h : EW B F X n ρ l fun x => EW B F X n ρ r fun y => ∃ z, CmpS B n op x y z ∧ Q (.im (.bool z))) (hm : behindInMarks op r = false := by with_unfolding_all rfl) : EW B F X n ρ (.Compare l [op] [r] pos) Q :=
  .mk fun env oa A s R a => wpAny_Compare1 (h.run R a (Kp.refl _) fun vx s1 rx qx k1 x1 => qx.run (R.kp k1) (a.kp k1) k1 fun vy s2 ry ⟨z, hz, q⟩ k2 x2 =>
    wpAny_mono (hz env oa A s s2 vx vy _ ((R.kp k1).kp k2).base ((a.kp k1).kp k2) (x1.kp k2) (x2.back k1)) (fun v s3 hz7 => by obtain ⟨e, k3⟩ := hz7; exact ⟨_, q, (k1.trans k2).trans k3, by subst e; exact .bool _⟩) fun _ _ x => x) hm
theorem EW.un {op x pos} {Q : AV → Prop} (h : EW B F X n ρ x fun x => ∃ z, UnS B n op x z ∧ Q z) : EW B F X n ρ (.UnaryOp op x pos) Q :=
  .mk fun env oa A s R a => wpAny_UnaryOp (h.run R a (Kp.refl _) fun vx s1 rx ⟨z, hz, q⟩ k1 x1 =>
    wpAny_mono (hz env oa A s s1 vx _ (R.kp k1).base (a.kp k1) x1) (fun v s3 hz9 => by obtain ⟨k3, x3⟩ := hz9; exact ⟨z, q, k1.trans k3, x3.back k1⟩) fun _ _ x => x)

theorem TW.val {e : Expr} {Q : Bool → Prop} (h : EW B F X n ρ e fun x => ∃ b, TruS B n x b ∧ Q b)
    (he : ∀ env whole, isTrue e env whole = (do let v ← whole; standAt e.pos; holding [v] (truthy v)) := by intros; rfl) : TW B F X n ρ e Q :=
  .mk fun env oa A s R a => wpAny_isTrue_value (h.run R a (Kp.refl _) fun vx s1 rx ⟨b, hb, q⟩ k1 x1 =>
    wpAny_mono (hb env oa A s s1 vx _ (R.kp k1).base (a.kp k1) x1) (fun v s3 hz11 => by obtain ⟨e, k3⟩ := hz11; subst e; exact ⟨q, k1.trans k3⟩) fun _ _ x => x) (he env _)
theorem TW.not {x pos} {Q : Bool → Prop} (h : TW B F X n ρ x fun b => Q (!b)) : TW B F X n ρ (.UnaryOp .Not x pos) Q :=
  .mk fun env oa A s R a => wpAny_isTrue_Not (h.go env oa A s R a)
theorem TW.cmp {l op r pos} {Q : Bool → Prop} (h : EW B F X n ρ l fun x => EW B F X n ρ r fun y => ∃ z, CmpS B n op x y z ∧ Q z) (hm : behindInMarks op r = false := by with_unfolding_all rfl) : TW B F X n ρ (.Compare l [op] [r] pos) Q :=
  .mk fun env oa A s R a => wpAny_isTrue_Compare1 (h.run R a (Kp.refl _) fun vx s1 rx qx k1 x1 => qx.run (R.kp k1) (a.kp k1) k1 fun vy s2 ry ⟨z, hz, q⟩ k2 x2 =>
    wpAny_mono (hz env oa A s s2 vx vy _ ((R.kp k1).kp k2).base ((a.kp k1).kp k2) (x1.kp k2) (x2.back k1)) (fun v s3 hz13 => by obtain ⟨e, k3⟩ := hz13; subst e; exact wpAny_truthy_bool ⟨q, (k1.trans k2).trans k3⟩) fun _ _ x => x) hm

structure AW (B : Bs) (F : Fi) (X : Str → Prop) (n : Nat) (ρ : List (Option Sl)) (op : BoolOp) (es : List Expr) (Q : Bool → Prop) : Prop where
  go : ∀ env oa A s, Rp B F env oa ρ s → Ar B A n s → wpAny (model B.prog B.w) A (allTrue op es env) (fun b s' => Q b ∧ Kp B s s') (EP B X s) s
theorem AW.andNil {Q : Bool → Prop} (h : Q true) : AW B F X n ρ .And [] Q := .mk fun env oa A s R a => wpAny_allTrue_And_nil ⟨h, Kp.refl _⟩
theorem AW.orNil {Q : Bool → Prop} (h : Q false) : AW B F X n ρ .Or [] Q := .mk fun env oa A s R a => wpAny_allTrue_Or_nil ⟨h, Kp.refl _⟩
theorem AW.andCons {x rest} {Q : Bool → Prop} (h : TW B F X n ρ x fun b => if b = true then AW B F X n ρ .And rest Q else Q false) : AW B F X n ρ .And (x :: rest) Q :=
  .mk fun env oa A s R a => wpAny_allTrue_And_cons (h.run R a (Kp.refl _) fun b s1 q k1 => by
    cases b with
    | false => exact ⟨by simpa using q, k1⟩
    | true =>
      have q' : AW B F X n ρ .And rest Q := by simpa using q
      exact wpAny_mono (q'.go env oa A s1 (R.kp k1) (a.kp k1)) (fun b s2 hz14 => by obtain ⟨h1, h2⟩ := hz14; exact ⟨h1, k1.trans h2⟩) fun _ _ x => x.back k1)
theorem AW.orCons {x rest} {Q : Bool → Prop} (h : TW B F X n ρ x fun b => if b = true then Q true else AW B F X n ρ .Or rest Q) : AW B F X n ρ .Or (x :: rest) Q :=
  .mk fun env oa A s R a => wpAny_allTrue_Or_cons (h.run R a (Kp.refl _) fun b s1 q k1 => by
    cases b with
    | true => exact ⟨by simpa using q, k1⟩
    | false =>
      have q' : AW B F X n ρ .Or rest Q := by simpa using q
      exact wpAny_mono (q'.go env oa A s1 (R.kp k1) (a.kp k1)) (fun b s2 hz15 => by obtain ⟨h1, h2⟩ := hz15; exact ⟨h1, k1.trans h2⟩) fun _ _ x => x.back k1)
theorem TW.bool {op es pos} {Q : Bool → Prop} (h : AW B F X n ρ op es Q) : TW B F X n ρ (.BoolOp op es pos) Q :=
  .mk fun env oa A s R a => wpAny_isTrue_BoolOp (h.go env oa A s R a)
theorem EW.ife {t b o pos} {Q : AV → Prop} (h : TW B F X n ρ t fun c => if c = true then EW B F X n ρ b Q else EW B F X n ρ o Q) : EW B F X n ρ (.IfExp t b o pos) Q :=
  .mk fun env oa A s R a => wpAny_IfExp (h.run R a (Kp.refl _) fun c s1 q k1 => by
    cases c with
    | true =>
      have q' : EW B F X n ρ b Q := by simpa using q
      exact q'.run (R.kp k1) (a.kp k1) k1 fun v s2 r h1 h2 h3 => ⟨r, h1, k1.trans h2, h3.back k1⟩
    | false =>
      have q' : EW B F X n ρ o Q := by simpa using q
      exact q'.run (R.kp k1) (a.kp k1) k1 fun v s2 r h1 h2 h3 => ⟨r, h1, k1.trans h2, h3.back k1⟩)
theorem EW.and2 {x y pos} {Q : AV → Prop} (h : EW B F X n ρ x fun r => ∃ b, TruS B n r b ∧ if b = true then EW B F X n ρ y Q else Q r) : EW B F X n ρ (.BoolOp .And [x, y] pos) Q :=
  .mk fun env oa A s R a => wpAny_And2 (h.run R a (Kp.refl _) fun vx s1 rx ⟨b, hb, q⟩ k1 x1 =>
    wpAny_mono (hb env oa A s s1 vx _ (R.kp k1).base (a.kp k1) x1) (fun v s3 hz17 => by
      obtain ⟨e, k3⟩ := hz17
      subst e
      cases v with
      | true =>
        have q' : EW B F X n ρ y Q := by simpa using q
        exact q'.run ((R.kp k1).kp k3) ((a.kp k1).kp k3) (k1.trans k3) fun v s2 r h1 h2 h3 => ⟨r, h1, (k1.trans k3).trans h2, h3.back (k1.trans k3)⟩
      | false => exact ⟨rx, by simpa using q, k1.trans k3, x1.kp k3⟩) fun _ _ x => x)
theorem EW.or2 {x y pos} {Q : AV → Prop} (h : EW B F X n ρ x fun r => ∃ b, TruS B n r b ∧ if b = true then Q r else EW B F X n ρ y Q) : EW B F X n ρ (.BoolOp .Or [x, y] pos) Q :=
  .mk fun env oa A s R a => wpAny_Or2 (h.run R a (Kp.refl _) fun vx s1 rx ⟨b, hb, q⟩ k1 x1 =>
    wpAny_mono (hb env oa A s s1 vx _ (R.kp k1).base (a.kp k1) x1) (fun v s3 hz19 => by
      obtain ⟨e, k3⟩ := hz19
      subst e
      cases v with
      | false =>
        have q' : EW B F X n ρ y Q := by simpa using q
        exact q'.run ((R.kp k1).kp k3) ((a.kp k1).kp k3) (k1.trans k3) fun v s2 r h1 h2 h3 => ⟨r, h1, (k1.trans k3).trans h2, h3.back (k1.trans k3)⟩
      | true => exact ⟨rx, by simpa using q, k1.trans k3, x1.kp k3⟩) fun _ _ x => x)

structure LW (B : Bs) (F : Fi) (X : Str → Prop) (n : Nat) (ρ : List (Option Sl)) (es : List Expr) (Q : List AV → Prop) : Prop where
  go : ∀ env oa A s pos, Rp B F env oa ρ s → Ar B A n s → wpAny (model B.prog B.w) A (spliced (backTo pos (starEach es env)))
    (fun vs s' => ∃ rs, Q rs ∧ Kp B s s' ∧ vs.length = rs.length ∧ ∀ (i : Nat) v r, vs[i]? = some v → rs[i]? = some r → VR B env oa s s' v r) (EP B X s) s
theorem LW.nil {Q : List AV → Prop} (h : Q []) : LW B F X n ρ [] Q :=
  .mk fun env oa A s pos R a => wpAny_items_nil ⟨[], h, Kp.refl _, rfl, fun i v r e => by simp at e⟩
theorem LW.cons {e rest} {Q : List AV → Prop} (h : EW B F X n ρ e fun r => LW B F X n ρ rest fun rs => Q (r :: rs))
    (he : ∀ env, starEach (e :: rest) env = (false, eval e env) :: starEach rest env := by intro _; rfl) : LW B F X n ρ (e :: rest) Q :=
  .mk fun env oa A s pos R a => wpAny_items_cons (h.run R a (Kp.refl _) fun v s1 r q k1 x1 =>
    wpAny_mono (q.go env oa A s1 pos (R.kp k1) (a.kp k1)) (fun vs s2 hz20 => by obtain ⟨rs, h1, h2, h3, h4⟩ := hz20; exact ⟨r :: rs, h1, k1.trans h2, by simp [h3], fun i v' r' e1 e2 => by
      cases i with
      | zero => simp at e1 e2; subst e1; subst e2; exact x1.kp h2
      | succ i => exact (h4 i v' r' (by simpa using e1) (by simpa using e2)).back k1⟩) fun _ _ x => x.back k1) (he env)
theorem LW.mono {es} {Q Q' : List AV → Prop} (h : LW B F X n ρ es Q) (q : ∀ r, Q r → Q' r) : LW B F X n ρ es Q' :=
  .mk fun env oa A s pos R a => wpAny_mono (h.go env oa A s pos R a) (fun _ _ hz21 => by obtain ⟨r, h1, h2⟩ := hz21; exact ⟨r, q _ h1, h2⟩) fun _ _ x => x

inductive Dats : List AV → List D → Prop
  | nil : Dats [] []
  | cons {d rs ds} : Dats rs ds → Dats (.im d :: rs) (d :: ds)
theorem Dats.ims {env oa s s'} : ∀ {rs ds}, Dats rs ds → ∀ {vs : List Value}, vs.length = rs.length → (∀ (i : Nat) v r, vs[i]? = some v → rs[i]? = some r → VR B env oa s s' v r) → Ims s'.heap vs ds
  := by
  intro rs ds k
  induction k with
  | nil => intro vs h _; cases vs with | nil => exact .nil | cons _ _ => simp at h
  | cons k ih =>
    intro vs h hv
    cases vs with
    | nil => simp at h
    | cons v vs => exact .cons (hv 0 v _ rfl rfl) (ih (by simpa using h) fun i v' r' e1 e2 => hv (i + 1) v' r' (by simpa using e1) (by simpa using e2))
theorem push_kp {s : Shared} (o : Obj) {t : Nat} : Kp B s { s with heap := s.heap.push o, toks := t } := Kp.of fun b o' e => Heap.get?_push_of_some _ e
theorem fresh_size (s : Shared) : s.heap.get? s.heap.objs.size = none := by
  cases e : s.heap.get? s.heap.objs.size with
  | none => rfl
  | some o => exact absurd (Heap.lt_size e) (Nat.lt_irrefl _)
theorem Dats.length : ∀ {rs ds}, Dats rs ds → rs.length = ds.length
  | _, _, .nil => rfl
  | _, _, .cons k => by simp [k.length]

theorem EW.tuple {es k pos} {Q : AV → Prop} (h : LW B F X n ρ es fun rs => ∃ ds, Dats rs ds ∧ ds.length ≤ sizeLine ∧ Q (.im (.tup ds))) : EW B F X n ρ (.Tuple es k pos) Q :=
  .mk fun env oa A s R a => wpAny_Tuple (wpAny_mono (h.go env oa A s pos R a) (fun vs s1 ⟨rs, ⟨ds, hd, hl, q⟩, k1, e, hv⟩ =>
    ⟨by rw [e, hd.length]; exact hl, _, q, k1.trans (push_kp _), .tup (Heap.get?_push_size _ rfl) rfl rfl (by simpa using (hd.ims e hv).grow (push_kp (B := B) _ (t := s1.toks)).tups)⟩) fun _ _ x => x)
theorem EW.list {es pos} {Q : AV → Prop} (h : LW B F X n ρ es fun rs => ∃ ds, Dats rs ds ∧ ds.length ≤ sizeLine ∧ Q (.ct .fr (.lst ds))) : EW B F X n ρ (.List es pos) Q :=
  .mk fun env oa A s R a => wpAny_List (wpAny_mono (h.go env oa A s pos R a) (fun vs s1 ⟨rs, ⟨ds, hd, hl, q⟩, k1, e, hv⟩ =>
    ⟨by rw [e, hd.length]; exact hl, _, q, k1.trans (push_kp _), _, rfl, ⟨_, _, _, Heap.get?_push_size _ rfl, ⟨rfl, rfl⟩, rfl, by simpa using (hd.ims e hv).grow (push_kp (B := B) _ (t := s1.toks)).tups⟩, k1.fresh (fresh_size s1)⟩) fun _ _ x => x)
end
end Mine
end

section
open PySem PySem.W PyProof.Rows
set_option Elab.async false
set_option maxRecDepth 100000
set_option linter.unusedVariables false
namespace Mine

theorem Ns.unique {h : Heap} {a : Addr} {m m' : Str → Option Value} (x : h.Ns a m) (y : h.Ns a m') : m = m' := by
  obtain ⟨o, es, ep, ho, hd, _, hf⟩ := x
  obtain ⟨o', es', ep', ho', hd', _, hf'⟩ := y
  rw [ho] at ho'; cases ho'
  rw [hd] at hd'; cases hd'
  funext n; rw [← hf n, ← hf' n]

theorem putName_cls (name : Str) (h : Int) (key v : Value) (o : Obj) : (Obj.putName name h key v o).cls = o.cls := by
  obtain ⟨c, d, dt, sl⟩ := o
  cases dt <;> simp [Obj.putName, Obj.modName] <;> (try split) <;> rfl
theorem putName_free {name : Str} {h : Int} {key v : Value} {o : Obj} {es ep} (hd : o.data = .dict es ep) : (Obj.putName name h key v o).isFreed = false := by
  obtain ⟨c, d, dt, sl⟩ := o
  subst hd
  simp [Obj.putName] <;> (try split) <;> rfl
open Sem in
theorem nsSet_cls {M : Model} {A : Around} {E : Value → Shared → Prop} {s : Shared} {a : Addr} {m : Str → Option Value} {name : Str} {v : Value} {o : Obj} {Q : Unit → Shared → Prop} (hn : s.heap.Ns a m) (ho : s.heap.get? a = some o)
    (h : ∀ h' o', h'.Ns a (fun x => if x = name then some v else m x) → Heap.SameBut a s.heap h' → h'.get? a = some o' → o'.cls = o.cls → Q () { s with heap := h', toks := s.toks + 1 }) :
    wpAny M A (nsSet a name v) Q E s := by
  intro Γ p hΓ
  have h1 := Sem.wp_nsSet M Γ (fun e _ s' => E e s') p s hn name v (fun _ _ s' => ∃ h', h'.Ns a (fun x => if x = name then some v else m x) ∧ Heap.SameBut a s.heap h' ∧ s' = { s with heap := h', toks := s.toks + 1 }) (fun h' x y => ⟨h', x, y, rfl⟩)
  obtain ⟨o1, es, ep, ho1, hd, hk, hm⟩ := id hn
  obtain rfl : o1 = o := Option.some.inj (ho1.symm.trans ho)
  have hany : aRefKeyMayBeTheName name es = false := by
    rw [aRefKeyMayBeTheName_eq, aRefKeyMayBeTheNameByArray]
    have : es.any (·.refKey) = false := by
      rw [Array.any_eq_false']; intro e he; obtain ⟨n, t, h⟩ := hk e he; simp [DictEntry.refKey, h]
    simp [this]
  simp only [nsSet, strHash, wp_bind', wp_cmd_ask, wp_pure', wp_cmd_mkText] at h1 ⊢
  rw [wp_loadPart_of M Γ _ p { s with toks := s.toks + 1 } (o := o1) _ ho] at h1 ⊢
  simp only [hd, hany, Bool.false_eq_true, if_false, wp_cmd_updatePart] at h1 ⊢
  refine ⟨h1.1, ?_⟩
  obtain ⟨h', x, y, e⟩ := h1.2
  have e' : s.heap.update a (Obj.putName name (if name.cps.isEmpty = true then 0 else reduceHash (M.w.params.strHash name.cps)) (.str name s.toks) v) = h' := congrArg Shared.heap e
  obtain ⟨o2, es2, ep2, ho2, hd2, r⟩ := id x
  refine e ▸ h h' o2 x y ho2 ?_
  have := Heap.get?_update_self (Obj.putName name (if name.cps.isEmpty = true then 0 else reduceHash (M.w.params.strHash name.cps)) (.str name s.toks) v) ho (putName_free hd)
  rw [e', ho2] at this
  cases this
  exact putName_cls ..

inductive Fl where
  | next
  | brk
  | cont
  | ret (r : AV)

section
variable {B : Bs} {F : Fi} {X : Str → Prop} {n : Nat} {ρ : List (Option Sl)}

noncomputable def FlR (B : Bs) (env : Env) (oa : Nat → Option Addr) (s s' : Shared) : Flow → Fl → Prop
  | .next, .next => True
  | .brk, .brk => True
  | .cont, .cont => True
  | .ret v, .ret r => VR B env oa s s' v r
  | _, _ => False
noncomputable def OwnFrom (s : Shared) (oa oa' : Nat → Option Addr) : Prop := ∀ i a, oa' i = some a → (∃ j, oa j = some a) ∨ s.heap.get? a = none
theorem OwnFrom.refl (s : Shared) (oa) : OwnFrom s oa oa := fun i a h => .inl ⟨i, h⟩
noncomputable def Po (B : Bs) (F : Fi) (env : Env) (oa : Nat → Option Addr) (s : Shared) (Q : Fl → List (Option Sl) → Prop) (f : Flow) (s' : Shared) : Prop :=
  ∃ fl ρ' oa', Q fl ρ' ∧ FlR B env oa' s s' f fl ∧ Rp B F env oa' ρ' s' ∧ KpW B (FW env oa) s s' ∧ OwnFrom s oa oa'
noncomputable def Hd (A : Around) (env : Env) : Prop := (∃ l, A.frames = some (env :: l)) ∧ env.frame = some env.locals
structure SW (B : Bs) (F : Fi) (X : Str → Prop) (n : Nat) (ρ : List (Option Sl)) (st : Stmt) (Q : Fl → List (Option Sl) → Prop) : Prop where
  go : ∀ env oa A s, Hd A env → Rp B F env oa ρ s → Ar B A n s → wpAny (model B.prog B.w) A (exec st env) (Po B F env oa s Q) (EPW B (FW env oa) X s) s
structure SWs (B : Bs) (F : Fi) (X : Str → Prop) (n : Nat) (ρ : List (Option Sl)) (st : List Stmt) (Q : Fl → List (Option Sl) → Prop) : Prop where
  go : ∀ env oa A s, Hd A env → Rp B F env oa ρ s → Ar B A n s → wpAny (model B.prog B.w) A (execs st env) (Po B F env oa s Q) (EPW B (FW env oa) X s) s

theorem FW.from {env : Env} {s : Shared} {oa oa' : Nat → Option Addr} (h : OwnFrom s oa oa') : ∀ b, FW env oa' b → FW env oa b ∨ s.heap.get? b = none := by
  rintro b (x | ⟨i, x⟩)
  · exact .inl (.inl x)
  · exact (h i b x).imp .inr fun y => y
theorem KpW.fresh {W} {s s' : Shared} (k : KpW B W s s') {a : Addr} (h : s'.heap.get? a = none) : s.heap.get? a = none := by
  cases e : s.heap.get? a with
  | none => rfl
  | some o => obtain ⟨o', e', _⟩ := k.live a o e; rw [h] at e'; cases e'
theorem OwnFrom.trans {W} {s s' : Shared} {oa oa' oa'' : Nat → Option Addr} (h : OwnFrom s oa oa') (k : KpW B W s s') (h' : OwnFrom s' oa' oa'') : OwnFrom s oa oa'' := by
  intro i a e
  rcases h' i a e with ⟨j, x⟩ | x
  · exact h j a x
  · exact .inr (k.fresh x)
theorem FlR.back {W env oa} {s s1 s' : Shared} {f : Flow} {fl : Fl} (k : KpW B W s s1) (x : FlR B env oa s1 s' f fl) : FlR B env oa s s' f fl := by
  cases f <;> cases fl <;> first | exact x | skip
  rename_i v r
  cases r with
  | im d => exact x
  | ct m c => cases m with
    | fz => exact x
    | fr => (obtain ⟨a, h1, h2, h3⟩ := x; exact ⟨a, h1, h2, k.fresh h3⟩)
    | ow i => exact x
theorem Po.back {env oa oa1} {s s1 : Shared} {Q : Fl → List (Option Sl) → Prop} {f s'} (k : KpW B (FW env oa) s s1) (o : OwnFrom s oa oa1) (x : Po B F env oa1 s1 Q f s') : Po B F env oa s Q f s' :=
  let ⟨fl, ρ', oa', h1, h2, h3, h4, h5⟩ := x
  ⟨fl, ρ', oa', h1, h2.back k, h3, k.trans h4 (FW.from o), o.trans k h5⟩
theorem EPW.back {env oa oa1} {s s1 : Shared} {e s'} (k : KpW B (FW env oa) s s1) (o : OwnFrom s oa oa1) (x : EPW B (FW env oa1) X s1 e s') : EPW B (FW env oa) X s e s' :=
  by obtain ⟨c, cv, a, h1, h2, h3, h4, h5⟩ := x; exact ⟨c, cv, a, h1, h2, h3, k.trans h4 (FW.from o), h5.back k⟩

theorem SWs.run {sts : List Stmt} {Q : Fl → List (Option Sl) → Prop} (h : SWs B F X n ρ sts Q) {env oa oa0 A s0 s} (hd : Hd A env) (R : Rp B F env oa ρ s) (a : Ar B A n s) (k0 : KpW B (FW env oa0) s0 s) (o : OwnFrom s0 oa0 oa) :
    wpAny (model B.prog B.w) A (execs sts env) (Po B F env oa0 s0 Q) (EPW B (FW env oa0) X s0) s :=
  wpAny_mono (h.go env oa A s hd R a) (fun f s' x => x.back k0 o) fun _ _ x => x.back k0 o
theorem SWs.nil {Q : Fl → List (Option Sl) → Prop} (h : Q .next ρ) : SWs B F X n ρ [] Q :=
  .mk fun env oa A s hd R a => wpAny_execs_nil ⟨.next, ρ, oa, h, trivial, R, KpW.refl _, OwnFrom.refl _ _⟩
theorem SWs.cons {st rest} {Q : Fl → List (Option Sl) → Prop} (h : SW B F X n ρ st fun fl ρ' => match fl with | .next => SWs B F X n ρ' rest Q | fl => Q fl ρ') : SWs B F X n ρ (st :: rest) Q := by
  refine .mk ?_
  intro env oa A s hd R a
  refine wpAny_execs_cons (wpAny_mono (h.go env oa A s hd R a) (fun f s' x => ?_) fun _ _ x => x)
  obtain ⟨fl, ρ', oa', h1, h2, h3, h4, h5⟩ := x
  cases f with
  | next => cases fl with
    | next => exact SWs.run h1 hd h3 (a.kp h4) h4 h5
    | _ => exact h2.elim
  | brk => cases fl with
    | brk => exact ⟨_, ρ', oa', h1, h2, h3, h4, h5⟩
    | _ => exact h2.elim
  | cont => cases fl with
    | cont => exact ⟨_, ρ', oa', h1, h2, h3, h4, h5⟩
    | _ => exact h2.elim
  | ret v => cases fl with
    | ret r => exact ⟨_, ρ', oa', h1, h2, h3, h4, h5⟩
    | _ => exact h2.elim
theorem SW.mono {st} {Q Q' : Fl → List (Option Sl) → Prop} (h : SW B F X n ρ st Q) (q : ∀ f r, Q f r → Q' f r) : SW B F X n ρ st Q' :=
  .mk fun env oa A s hd R a => wpAny_mono (h.go env oa A s hd R a) (fun _ _ hz2 => by obtain ⟨fl, ρ', oa', h1, h2⟩ := hz2; exact ⟨fl, ρ', oa', q _ _ h1, h2⟩) fun _ _ x => x

theorem SW.ret {e pos} {Q : Fl → List (Option Sl) → Prop} (h : EW B F X n ρ e fun r => Q (.ret r) ρ) : SW B F X n ρ (.Return (some e) pos) Q :=
  .mk fun env oa A s hd R a => wpAny_Return_some (wpAny_mono (h.go env oa A s R a) (fun v s' hz3 => by obtain ⟨r, q, k, x⟩ := hz3; exact ⟨_, ρ, oa, q, x, R.kp k, k.toW, OwnFrom.refl _ _⟩) fun _ _ x => x.toW)
theorem SW.ife {t b o pos} {Q : Fl → List (Option Sl) → Prop} (h : TW B F X n ρ t fun c => if c = true then SWs B F X n ρ b Q else SWs B F X n ρ o Q) : SW B F X n ρ (.If t b o pos) Q :=
  .mk fun env oa A s hd R a => wpAny_If (wpAny_mono (h.go env oa A s R a) (fun c s1 hz4 => by
    obtain ⟨q, k1⟩ := hz4
    cases c with
    | true =>
      have q' : SWs B F X n ρ b Q := by simpa using q
      exact q'.run hd (R.kp k1) (a.kp k1) k1.toW (OwnFrom.refl _ _)
    | false =>
      have q' : SWs B F X n ρ o Q := by simpa using q
      exact q'.run hd (R.kp k1) (a.kp k1) k1.toW (OwnFrom.refl _ _)) fun _ _ x => x.toW)
noncomputable def AV.sl : AV → Option Sl
  | .im d => some (.im d)
  | .ct .fz c => some (.fz c)
  | .ct .fr c => some (.own c)
  | .ct (.ow _) _ => none
noncomputable def shown (h : Heap) (v : Value) : Cont → Option Addr
  | .pair _ _ => match v with
    | .ref t => match h.get? t with
      | some o => match o.data with
        | .seq (vs : Array Value) _ => match (vs[1]? : Option Value) with
          | some (Value.ref b) => some b
          | _ => none
        | _ => none
      | none => none
    | _ => none
  | _ => match v with | .ref a => some a | _ => none
theorem Vw.shown {h : Heap} {v : Value} {a : Addr} {c : Cont} (x : Vw h v a c) : shown h v c = some a := by
  cases c with
  | pair d l =>
    obtain ⟨t, o, n, v0, rfl, h2, h3, h4, h5⟩ := x
    unfold Mine.shown
    simp [h2, h4]
  | _ => (have x : v = .ref a := x; subst x; rfl)
theorem Vw.unique {h : Heap} {v : Value} {a a' : Addr} {c : Cont} (x : Vw h v a c) (y : Vw h v a' c) : a = a' := by
  have := x.shown.symm.trans y.shown; cases this; rfl
noncomputable def oaSet (oa : Nat → Option Addr) (i : Nat) (h : Heap) (v : Value) : AV → Nat → Option Addr
  | .ct .fr c, j => if j = i then shown h v c else oa j
  | _, j => if j = i then none else oa j

theorem VarAt.unique {env : Env} {h : Heap} {x : Str} {k : Kd} {v v' : Value} (a : VarAt env h x k v) (b : VarAt env h x k v') : v = v' := by
  have cel : ∀ {v v'}, (∃ c, env.cells.lookup x = some c ∧ h.IsCell c (some v)) → (∃ c, env.cells.lookup x = some c ∧ h.IsCell c (some v')) → v = v' := fun hz6 hz7 => by
    obtain ⟨c, h1, o, h2, h3⟩ := hz6
    obtain ⟨c', h4, o', h5, h6⟩ := hz7
    rw [h1] at h4; cases h4; rw [h2] at h5; cases h5; rw [h3] at h6; cases h6; rfl
  cases k with
  | loc => obtain ⟨m, h1, h2⟩ := a; obtain ⟨m', h3, h4⟩ := b; obtain rfl := Ns.unique h1 h3; rw [h2] at h4; cases h4; rfl
  | cel => exact cel a b
  | fre => exact cel a b
noncomputable def FzOld (F : Fi) (env : Env) (ρ : List (Option Sl)) (i : Nat) (s0 : Shared) (h : Heap) : Prop :=
  ∀ (j : Nat) y k' c a, j ≠ i → F.vars[j]? = some (y, k') → ρ[j]? = some (some (.fz c)) → VarV env h y k' a c → ∃ o, s0.heap.get? a = some o
theorem VarV.unique {env : Env} {h : Heap} {x : Str} {k : Kd} {a a' : Addr} {c : Cont} (p : VarV env h x k a c) (q : VarV env h x k a' c) : a = a' := by
  obtain ⟨v, p1, p2⟩ := p.get
  obtain ⟨u, q1, q2⟩ := q.get
  have := VarAt.unique p1 q1
  subst this
  exact p2.unique q2
theorem Rp.stored {env oa} {s0 s s' : Shared} {i : Nat} {x : Str} {k : Kd} {v : Value} {r : AV} {sl : Sl} {W : Addr}
    (R0 : Rp B F env oa ρ s0) (hx : F.vars[i]? = some (x, k)) (hsl : r.sl = some sl)
    (hr : VR B env oa s0 s v r) (hk0 : Kp B s0 s) (Rz : ∀ a, s0.heap.get? a = none → ¬ FW env oa a ∧ B.hB.get? a = none)
    (hW : Priv env W) (hWb : B.hB.get? W = none) (hs : Heap.SameBut W s.heap s'.heap)
    (hgens : s'.gens = s.gens) (hos : s'.os = s.os) (hL : ∃ m, s'.heap.Ns env.locals m)
    (hcells : ∀ (j : Nat) y k', F.vars[j]? = some (y, k') → k' ≠ Kd.loc → ∃ c v, env.cells.lookup y = some c ∧ s'.heap.IsCell c v ∧ (j < F.own → env.locals < c))
    (hcl2 : ∀ y c, (y, c) ∈ env.cells → ∃ v, s'.heap.IsCell c v)
    (hnew : VarAt env s'.heap x k v) (hold : ∀ (j : Nat) y k' u, F.vars[j]? = some (y, k') → j ≠ i → VarAt env s.heap y k' u → VarAt env s'.heap y k' u)
    (hWo : ∃ o o', s.heap.get? W = some o ∧ s'.heap.get? W = some o' ∧ (∀ vs n, o.data ≠ .seq vs n) ∧ (∀ vs, o'.data ≠ .fields vs) ∧ ((∃ es ep, o.data = .dict es ep) → o'.cls = o.cls ∧ ∃ es ep, o'.data = .dict es ep)) :
    Rp B F env (oaSet oa i s.heap v r) (ρ.set i (some sl)) s' ∧ KpW B (Priv env) s s' ∧ OwnFrom s0 oa (oaSet oa i s.heap v r) ∧ FzOld F env ρ i s0 s'.heap ∧ VarAt env s'.heap x k v ∧ ∀ (j : Nat) y k' u, F.vars[j]? = some (y, k') → j ≠ i → VarAt env s.heap y k' u → VarAt env s'.heap y k' u := by
  have R : Rp B F env oa ρ s := R0.kp hk0
  obtain ⟨oW, oW', hoW, hoW', hns, hnf, hcl⟩ := hWo
  have oth : ∀ b, b ≠ W → s'.heap.get? b = s.heap.get? b := fun b hb => hs.2 b hb
  have k : KpW B (Priv env) s s' := by
    refine ⟨fun b o e nw _ => ?_, fun b o e nw => ?_, fun b o vs m e c d => ?_, fun b o e => ?_, hgens, hos⟩
    · rw [oth b (fun q => nw (q ▸ hW))]; exact e
    · exact ⟨o.slots, by rw [oth b (fun q => nw (q ▸ hW))]; exact e⟩
    · rw [oth b (fun q => by subst q; rw [hoW] at e; cases e; exact hns _ _ d)]; exact e
    · by_cases q : b = W
      · subst q; rw [hoW] at e; cases e; exact ⟨oW', hoW', fun _ => hnf, hcl⟩
      · exact ⟨o, by rw [oth b q]; exact e, fun x => x, fun x => ⟨rfl, x⟩⟩
  have nW : ∀ j a, oa j = some a → a ≠ W := fun j a h q => (R.opriv j a h).1 (q ▸ hW)
  have cont : ∀ a c, a ≠ W → ContAt B s.heap a c → ContAt B s'.heap a c := fun a c ne y => y.of_same (fun o e _ => by rw [oth a ne]; exact e) k.tups
  -- what the new name holds
  have oaOther : ∀ j, j ≠ i → oaSet oa i s.heap v r j = oa j := fun j hj => by
    cases r with
    | im d => simp [oaSet, hj]
    | ct m c => cases m <;> simp [oaSet, hj]
  have oaNew : ∀ a, oaSet oa i s.heap v r i = some a → s0.heap.get? a = none ∧ ∃ c, ContAt B s.heap a c := fun a h => by
    cases r with
    | im d => simp [oaSet] at h
    | ct m c => cases m with
      | fz => simp [oaSet] at h
      | ow _ => simp [oaSet] at h
      | fr =>
        obtain ⟨b, hv, hc, hf⟩ := hr
        simp [oaSet, hv.shown] at h; subst h
        exact ⟨hf, c, hc⟩
  have notFW : ∀ a, ¬ FW env oa a → (∀ b, oaSet oa i s.heap v r i = some b → a ≠ b) → ¬ FW env (oaSet oa i s.heap v r) a := by
    rintro a h1 h2 (q | ⟨j, q⟩)
    · exact h1 (.inl q)
    · by_cases e : j = i
      · subst e; exact h2 a q rfl
      · rw [oaOther j e] at q; exact h1 (.inr ⟨j, q⟩)
  refine ⟨⟨fun b o h => ?_, R.scope, R.globals, R.builtins, hL, hcells, R.apart, R.locCell, hcl2, R.privNew, ?_, ?_, ?_⟩, k, ?_, ?_, hnew, hold⟩
  · rw [oth b (fun q => by subst q; rw [hWb] at h; cases h)]; exact R.base b o h
  · intro j y k' sl' hy hρ
    by_cases e : j = i
    · subst e
      rw [hx] at hy; cases hy
      have hlt : j < ρ.length := by
        by_cases q : j < ρ.length
        · exact q
        · rw [List.set_eq_of_length_le (Nat.le_of_not_lt q)] at hρ
          rw [List.getElem?_eq_none (Nat.le_of_not_lt q)] at hρ; cases hρ
      rw [List.getElem?_set_self hlt] at hρ
      cases hρ
      cases r with
      | im d =>
        simp [AV.sl] at hsl; subst hsl
        exact ⟨v, hnew, hr.grow k.tups⟩
      | ct m c => cases m with
        | ow _ => simp [AV.sl] at hsl
        | fz =>
          simp [AV.sl] at hsl; subst hsl
          obtain ⟨a, hv, hc, hf⟩ := hr
          exact ⟨a, .of hnew (hv.grow k.tups), cont a c (fun q => hf (q ▸ .inl hW)) hc, notFW a hf fun b hb => by simp [oaSet] at hb⟩
        | fr =>
          simp [AV.sl] at hsl; subst hsl
          obtain ⟨a, hv, hc, hf⟩ := hr
          exact ⟨a, .of hnew (hv.grow k.tups), cont a c (fun q => (Rz a hf).1 (q ▸ .inl hW)) hc, by simp [oaSet, hv.shown], fun _ q => by cases q⟩
    · rw [List.getElem?_set_ne (Ne.symm e)] at hρ
      have old := R.slots j y k' sl' hy hρ
      cases sl' with
      | im d => (obtain ⟨u, h1, h2⟩ := old; exact ⟨u, hold j y k' u hy e h1, h2.grow k.tups⟩)
      | fz c =>
        obtain ⟨a, h1, h2, h3⟩ := R0.slots j y k' _ hy hρ
        obtain ⟨u, h1a, h1b⟩ := (h1.keep (fun b o h => hk0.data b o h (fun x => x)) hk0.tups).get
        refine ⟨a, .of (hold j y k' _ hy e h1a) (h1b.grow k.tups), cont a c (fun q => h3 (q ▸ .inl hW)) (h2.kp hk0 (fun x => x)), notFW a h3 fun b hb q => ?_⟩
        subst q
        obtain ⟨o, ho⟩ := h2.exists
        rw [(oaNew a hb).1] at ho; cases ho
      | own c =>
        obtain ⟨a, h1, h2, h3, h4⟩ := old
        obtain ⟨u, h1a, h1b⟩ := h1.get
        exact ⟨a, .of (hold j y k' _ hy e h1a) (h1b.grow k.tups), cont a c (nW j a h3) h2, by rw [oaOther j e]; exact h3, h4⟩
  · intro j j' a h1 h2
    by_cases e : j = i <;> by_cases e' : j' = i
    · rw [e, e']
    · exfalso; subst e; rw [oaOther j' e'] at h2; exact (Rz a (oaNew a h1).1).1 (.inr ⟨j', h2⟩)
    · exfalso; subst e'; rw [oaOther j e] at h1; exact (Rz a (oaNew a h2).1).1 (.inr ⟨j, h1⟩)
    · rw [oaOther j e] at h1; rw [oaOther j' e'] at h2; exact R.oinj j j' a h1 h2
  · intro j a h
    by_cases e : j = i
    · subst e
      obtain ⟨hn, c, hc⟩ := oaNew a h
      obtain ⟨o, ho⟩ := hc.exists
      have := Rz a hn
      exact ⟨fun q => this.1 (.inl q), this.2, o, by rw [oth a (fun q => this.1 (q ▸ .inl hW))]; exact ho⟩
    · rw [oaOther j e] at h
      obtain ⟨h1, h2, o, ho⟩ := R.opriv j a h
      exact ⟨h1, h2, by obtain ⟨o', ho', _⟩ := k.live a o ho; exact ⟨o', ho'⟩⟩
  · intro j a h
    by_cases e : j = i
    · subst e; exact .inr (oaNew a h).1
    · rw [oaOther j e] at h; exact .inl ⟨j, h⟩
  · intro j y k' c a hj hy hρ hv
    obtain ⟨a0, h1, h2, h3⟩ := R0.slots j y k' _ hy hρ
    obtain ⟨u, h1a, h1b⟩ := (h1.keep (fun b o h => hk0.data b o h (fun x => x)) hk0.tups).get
    have := VarV.unique hv (.of (hold j y k' _ hy hj h1a) (h1b.grow k.tups))
    subst this
    exact h2.exists

theorem Rp.new {env oa} {s : Shared} (R : Rp B F env oa ρ s) {a : Addr} (h : s.heap.get? a = none) : ¬ FW env oa a ∧ B.hB.get? a = none := by
  refine ⟨?_, ?_⟩
  · rintro (q | ⟨i, q⟩)
    · rcases q with q | q
      · obtain ⟨m, o, es, ep, ho, _⟩ := R.ns
        rw [q, ho] at h; cases h
      · obtain ⟨p, hp, rfl⟩ := List.mem_map.mp q.2
        obtain ⟨v, o, ho, _⟩ := R.cellsLive p.1 p.2 hp
        rw [ho] at h; cases h
    · obtain ⟨_, _, o, ho⟩ := R.opriv i a q
      rw [ho] at h; cases h
  · cases e : B.hB.get? a with
    | none => rfl
    | some o => rw [R.base a o e] at h; cases h

theorem storeVar {env oa A} {s0 s : Shared} {i : Nat} {x : Str} {k : Kd} {v : Value} {r : AV} {sl : Sl} {E : Value → Shared → Prop}
    (R0 : Rp B F env oa ρ s0) (hk0 : Kp B s0 s) (hr : VR B env oa s0 s v r) (hx : F.vars[i]? = some (x, k)) (hsl : r.sl = some sl) (hkd : k ≠ .fre) (hi : i < F.own) :
    wpAny (model B.prog B.w) A (storeName env x v) (fun _ s' => Rp B F env (oaSet oa i s.heap v r) (ρ.set i (some sl)) s' ∧ KpW B (Priv env) s s' ∧ OwnFrom s0 oa (oaSet oa i s.heap v r) ∧ FzOld F env ρ i s0 s'.heap ∧ VarAt env s'.heap x k v ∧ ∀ (j : Nat) y k' u, F.vars[j]? = some (y, k') → j ≠ i → VarAt env s.heap y k' u → VarAt env s'.heap y k' u) E s := by
  have R := R0.kp hk0
  obtain ⟨h1, h2, h3⟩ := F.at hx
  have hk : env.scope.kind = .function := by rw [R.scope]; exact F.fn
  have hl : env.kindOf x = some k.kind := by unfold Env.kindOf; rw [R.scope]; exact h1
  cases k with
  | fre => exact (hkd rfl).elim
  | loc =>
    obtain ⟨m, hn⟩ := R.ns
    obtain ⟨oL, hoL⟩ : ∃ o, s.heap.get? env.locals = some o := by obtain ⟨o, _, _, ho, _⟩ := hn; exact ⟨o, ho⟩
    rw [storeName_local hl (by rw [hk]; rfl)]
    refine nsSet_cls hn hoL fun h' oL' hn' hs' hoL' hcL => ?_
    refine R0.stored hx hsl hr hk0 (fun a h => R0.new h) (.inl rfl) (R.privNew _ (.inl rfl)) hs' rfl rfl ⟨_, hn'⟩ ?_ (fun y c hm => by obtain ⟨u, hu⟩ := R.cellsLive y c hm; exact ⟨u, hu.sameBut hs' (R.locCell y c hm)⟩) ⟨_, hn', if_pos rfl⟩ ?_ ?_
    · intro j y k' hy hne
      obtain ⟨c, u, hc, hcell, hw⟩ := R.cells j y k' hy hne
      exact ⟨c, u, hc, hcell.sameBut hs' (R.locCell y c (mem_of_lookup hc)), hw⟩
    · intro j y k' u hy hne hv
      cases k' with
      | loc =>
        obtain ⟨m1, hn1, hm1⟩ := hv
        obtain rfl := Ns.unique hn hn1
        refine ⟨_, hn', ?_⟩
        rw [if_neg (fun q => hne (F.inj hy (q ▸ hx)))]; exact hm1
      | cel => obtain ⟨c, hc, hcell⟩ := hv; exact ⟨c, hc, hcell.sameBut hs' (R.locCell y c (mem_of_lookup hc))⟩
      | fre => obtain ⟨c, hc, hcell⟩ := hv; exact ⟨c, hc, hcell.sameBut hs' (R.locCell y c (mem_of_lookup hc))⟩
    · obtain ⟨o, es, ep, ho, hd, _⟩ := hn
      obtain ⟨o', es', ep', ho', hd', _⟩ := hn'
      rw [hoL] at ho; cases ho
      rw [hoL'] at ho'; cases ho'
      exact ⟨_, _, hoL, hoL', (fun vs m q => by rw [hd] at q; cases q), (fun vs q => by rw [hd'] at q; cases q), fun _ => ⟨hcL, _, _, hd'⟩⟩
  | cel =>
    obtain ⟨c, u, hc, hcell, hcw⟩ := R.cells i x .cel hx (by decide)
    have hmem := mem_of_lookup hc
    refine wpAny_storeName_cell hk hl hc hcell fun h' hc' hs' => ?_
    refine R0.stored hx hsl hr hk0 (fun a h => R0.new h) (.inr ⟨hcw hi, List.mem_map.mpr ⟨(x, c), hmem, rfl⟩⟩) (R.privNew _ (.inr ⟨x, hmem⟩)) hs' rfl rfl ?_ ?_ ?_ ⟨c, hc, hc'⟩ ?_ ?_
    · obtain ⟨m, hn⟩ := R.ns; exact ⟨m, hn.sameBut hs' (Ne.symm (R.locCell x c hmem))⟩
    · intro j y k' hy hne
      obtain ⟨c', u', hc2, hcell2, hw2⟩ := R.cells j y k' hy hne
      by_cases q : c' = c
      · subst q; exact ⟨c', _, hc2, hc', hw2⟩
      · exact ⟨c', u', hc2, hcell2.sameBut hs' q, hw2⟩
    · intro y c' hm
      by_cases q : c' = c
      · subst q; exact ⟨_, hc'⟩
      · obtain ⟨u', hu⟩ := R.cellsLive y c' hm; exact ⟨u', hu.sameBut hs' q⟩
    · intro j y k' u' hy hne hv
      cases k' with
      | loc => obtain ⟨m1, hn1, hm1⟩ := hv; exact ⟨m1, hn1.sameBut hs' (Ne.symm (R.locCell x c hmem)), hm1⟩
      | cel =>
        obtain ⟨c2, hc2, hcell2⟩ := hv
        exact ⟨c2, hc2, hcell2.sameBut hs' fun q => hne (F.inj hy ((R.apart y x c (q ▸ hc2) hc) ▸ hx))⟩
      | fre =>
        obtain ⟨c2, hc2, hcell2⟩ := hv
        exact ⟨c2, hc2, hcell2.sameBut hs' fun q => hne (F.inj hy ((R.apart y x c (q ▸ hc2) hc) ▸ hx))⟩
    · obtain ⟨o, ho, hd⟩ := hcell
      obtain ⟨o', ho', hd'⟩ := hc'
      exact ⟨o, o', ho, ho', (fun vs m q => by rw [hd] at q; cases q), (fun vs q => by rw [hd'] at q; cases q), fun hz8 => by obtain ⟨es, ep, q⟩ := hz8; rw [hd] at q; cases q⟩

theorem SW.assign {x pos' value pos} {Q : Fl → List (Option Sl) → Prop} (i : Nat) {k : Kd} (hx : F.vars[i]? = some (x, k)) (hkd : k ≠ .fre) (hi : i < F.own)
    (h : EW B F X n ρ value fun r => ∃ sl, r.sl = some sl ∧ Q .next (ρ.set i (some sl)))
    (hs : ∀ env, swapsWith value (some (.Name x pos')) pos.line env = pure false := by intro _; rfl) : SW B F X n ρ (.Assign [.Name x pos'] value pos) Q :=
  .mk fun env oa A s hd R a => wpAny_Assign_Name (wpAny_mono (h.go env oa A s R a) (fun v s1 ⟨r, ⟨sl, hsl, q⟩, k1, x1⟩ =>
    wpAny_mono (storeVar R k1 x1 hx hsl hkd hi) (fun _ s2 hz10 => by obtain ⟨h1, h2, h3, _⟩ := hz10; exact ⟨.next, _, _, q, trivial, h1, (Kp.toW k1).trans (h2.mono fun _ x => .inl x) (fun _ x => .inl x), h3⟩) fun _ _ x => x) fun _ _ x => x.toW) (hs env)

end
end Mine
end

section
open PySem PySem.W PyProof.Rows
set_option Elab.async false
set_option maxRecDepth 100000
set_option linter.unusedVariables false
namespace Mine

section
variable {B : Bs} {W : Addr → Prop} {X : Str → Prop}

theorem KpW.upd {s0 s : Shared} (k : KpW B W s0 s) {b : Addr} (hb : s0.heap.get? b = none) (f : Obj → Obj) {t : Nat} : KpW B W s0 { s with heap := s.heap.update b f, toks := t } := by
  have ne : ∀ c o, s0.heap.get? c = some o → b ≠ c := fun c o e q => by subst q; rw [hb] at e; cases e
  refine ⟨fun c o e nw hf => ?_, fun c o e nw => ?_, fun c o vs n e c' d => ?_, fun c o e => ?_, k.gens, k.os⟩
  · exact (Heap.get?_update_other _ _ (ne c o e)).trans (k.keep c o e nw hf)
  · obtain ⟨sl, q⟩ := k.data c o e nw; exact ⟨sl, (Heap.get?_update_other _ _ (ne c o e)).trans q⟩
  · exact (Heap.get?_update_other _ _ (ne c o e)).trans (k.tups c o vs n e c' d)
  · obtain ⟨o', q, r⟩ := k.live c o e; exact ⟨o', (Heap.get?_update_other _ _ (ne c o e)).trans q, r⟩
theorem KpW.push {s0 s : Shared} (k : KpW B W s0 s) (o : Obj) {t : Nat} : KpW B W s0 { s with heap := s.heap.push o, toks := t } :=
  k.trans (push_kp (B := B) o) fun _ x => x.elim
theorem KpW.slots {s0 s : Shared} (k : KpW B W s0 s) {l : List Env} {h' : Heap} (hl : s.heap.FunFrames B.hB l) (hc : ∀ L ∈ l.filterMap (·.frame), ∃ o es ep, s.heap.get? L = some o ∧ o.cls = .type "frame" ∧ o.data = .dict es ep)
    (x : Heap.SlotsOnly (l.filterMap (·.frame)) s.heap h') {t : Nat} : KpW B W s0 { s with heap := h', toks := t } := by
  refine k.trans (W' := fun _ => False) ⟨fun b o e _ hf => ?_, fun b o e _ => ?_, fun b o vs n e c d => ?_, fun b o e => ?_, rfl, rfl⟩ fun _ x => x.elim
  · rw [x.2.1 b fun hm => ?_]; exact e
    obtain ⟨o1, es, ep, h1, h2, _⟩ := hc b hm
    rw [e] at h1; cases h1
    rcases hf with q | q
    · exact q h2
    · rw [(hl.mem hm).1] at q; cases q
  · exact x.2.2 b o e
  · rw [x.2.1 b fun hm => ?_]; exact e
    obtain ⟨o1, es, ep, h1, h2, h3⟩ := hc b hm
    rw [e] at h1; cases h1
    rw [h2] at c; exact absurd c (by decide)
  · obtain ⟨sl, q⟩ := x.2.2 b o e; exact ⟨_, q, fun y => y, fun y => ⟨rfl, y⟩⟩

noncomputable def Fly1 (B : Bs) (s : Shared) (cls : Value) (a : Addr) (h : Heap) : Prop :=
  s.heap.get? a = none ∧ ∃ o vs, h.get? a = some o ∧ o.cls = cls ∧ o.data = .fields vs ∧ 5 ≤ vs.size ∧
    ∃ T oT ts, vs[1]? = some (.ref T) ∧ T ≠ a ∧ s.heap.get? T = none ∧ h.get? T = some oT ∧ oT.cls = .type "traceback" ∧ oT.data = .fields ts ∧ 4 ≤ ts.size
theorem Fly1.fly {s cls a h} (x : Fly1 B s cls a h) : Fly B s cls a h := let ⟨h1, o, vs, h2, h3, h4, h5, h6⟩ := x; ⟨h1, o, vs, h2, h3, h4, h5, .inr h6⟩

structure Fr1 (B : Bs) (A : Around) (env : Env) (s : Shared) : Prop where
  ex : ∃ l, A.frames = some (env :: l) ∧ s.heap.FunFrames B.hB (env :: l) ∧ ∀ L ∈ (env :: l).filterMap (·.frame), ∃ o es ep, s.heap.get? L = some o ∧ o.cls = .type "frame" ∧ o.data = .dict es ep

theorem newEntryFly {A : Around} {env : Env} {s0 s : Shared} {cls : Value} {a L : Addr} {o : Obj} {vs : Array Value} {head : Value} {hn : Bool} {E : Value → Shared → Prop}
    (hf : env.frame = some L) (fr : Fr1 B A env s) (k : KpW B W s0 s) (h0 : s0.heap.get? a = none) (ho : s.heap.get? a = some o) (hc : o.cls = cls) (hd : o.data = .fields vs) (hsz : 5 ≤ vs.size) :
    wpAny (model B.prog B.w) A (do let fo ← frameOf env; let pl ← entryPlaceOf L hn; let b ← EntryCells.newEntry head fo .none (rawInt L) .none pl; setField (.ref a) 1 b)
      (fun _ s' => KpW B W s0 s' ∧ Fly1 B s0 cls a s'.heap) E s := by
  obtain ⟨l, h1, h2, h3⟩ := fr.ex
  refine wpAny_bind (wpAny_frameOf_fun h1 h2 hf fun h' hs => ?_)
  have k1 : KpW B W s0 { s with heap := h' } := k.slots h2 h3 hs
  have hna : a ∉ (env :: l).filterMap (·.frame) := fun hm => by
    obtain ⟨o1, es, ep, q1, _, q2⟩ := h3 a hm
    rw [ho] at q1; cases q1
    rw [hd] at q2; cases q2
  have ho1 : h'.get? a = some o := (hs.2.1 a hna).trans ho
  refine wpAny_bind (wpAny_entryPlaceOf fun pl hpl => ?_)
  unfold EntryCells.newEntry newFields
  refine wpAny_bind (wpAny_newObj_type ?_ (hpl.sizeOk5 _ _ _ _ _))
  have k2 := k1.push { cls := .type "traceback", dict := none, data := .fields ([head, .ref L, .none, rawInt L, .none] ++ (if pl.isEmpty then List.replicate 6 Value.none else pl)).toArray } (t := s.toks)
  have ho2 := Heap.get?_push_of_some (h := h') { cls := .type "traceback", dict := none, data := .fields ([head, .ref L, .none, rawInt L, .none] ++ (if pl.isEmpty then List.replicate 6 Value.none else pl)).toArray } ho1
  refine wpAny_setField ho2 hd (by (clear hna; (first | lia | omega))) ?_
  have hT0 : s0.heap.get? h'.objs.size = none := k1.fresh (fresh_size { s with heap := h' })
  have hne : h'.objs.size ≠ a := Nat.ne_of_gt (Heap.lt_size ho1)
  refine ⟨k2.upd h0 _, h0, _, _, Heap.get?_update_self _ ho2 (Obj.isFreed_of_fields (Obj.data_mapFields hd _)), (Obj.cls_mapFields ..).trans hc, Obj.data_mapFields hd _, by simpa using hsz, h'.objs.size, _, _, ?_, hne, hT0,
    (Heap.get?_update_other _ _ hne.symm).trans (Heap.get?_push_size _ rfl), rfl, rfl, ?_⟩
  · simp [Array.getElem?_setIfInBounds, show 1 < vs.size by (clear hne hna; (first | lia | omega))]
  · simp only [List.size_toArray, List.length_append, List.length_cons, List.length_nil]; (clear hne hna hsz; (first | lia | omega))

theorem noteFly {A : Around} {env : Env} {s0 s : Shared} {cls : Value} {a L : Addr} {E : Value → Shared → Prop} (hf : env.frame = some L) (fr : Fr1 B A env s) (k : KpW B W s0 s) (f : Fly B s0 cls a s.heap) :
    wpAny (model B.prog B.w) A (noteFrame (.ref a) env) (fun _ s' => KpW B W s0 s' ∧ Fly1 B s0 cls a s'.heap) E s := by
  obtain ⟨h0, o, vs, ho, hc, hd, hsz, hT⟩ := f
  unfold noteFrame
  simp only [hf]
  rcases hT with hT | ⟨T, oT, ts, q1, q2, q3, q4, q5, q6, q7⟩
  · refine wpAny_bind (wpAny_field ho hd hT ?_)
    simp only [bne_self_eq_false, Bool.false_eq_true, if_false]
    exact newEntryFly hf fr k h0 ho hc hd hsz
  · refine wpAny_bind (wpAny_field ho hd q1 ?_)
    rw [if_pos (show (Value.ref T != Value.none) = true from by simp)]
    obtain ⟨x, hx⟩ : ∃ x, ts[3]? = some x := ⟨ts[3], Array.getElem?_eq_getElem (by (clear hsz; (first | lia | omega)))⟩
    refine wpAny_bind (wpAny_field q4 q6 hx ?_)
    by_cases e : (x == rawInt L) = true
    · rw [if_pos e]
      exact wpAny_pure ⟨k, h0, o, vs, ho, hc, hd, hsz, T, oT, ts, q1, q2, q3, q4, q5, q6, q7⟩
    · rw [if_neg e]
      refine wpAny_bind (wpAny_setField q4 q6 (by (clear e hsz; (first | lia | omega))) ?_)
      have hTn : T ∉ (env :: fr.ex.choose).filterMap (·.frame) := fun hm => by
        obtain ⟨o1, es, ep, r1, _, r2⟩ := fr.ex.choose_spec.2.2 T hm
        rw [q4] at r1; cases r1
        rw [q6] at r2; cases r2
      have fr' : Fr1 B A env { s with heap := s.heap.update T (Obj.mapFields (·.setIfInBounds 3 .none)) } := by
        obtain ⟨l, r1, r2, r3⟩ := fr.ex
        have nf : ∀ L ∈ (env :: l).filterMap (·.frame), T ≠ L := fun L hm q => by
          obtain ⟨o1, es, ep, p1, _, p2⟩ := r3 L hm
          subst q; rw [q4] at p1; cases p1; rw [q6] at p2; cases p2
        refine ⟨l, r1, r2.of_keeps fun b ob hb hnf => ?_, fun L hm => ?_⟩
        · exact ⟨ob, (Heap.get?_update_other _ _ (fun q => by subst q; rw [q4] at hb; cases hb; exact hnf _ q6)).trans hb, rfl⟩
        · obtain ⟨o1, es, ep, p1, p2, p3⟩ := r3 L hm
          exact ⟨o1, es, ep, (Heap.get?_update_other _ _ (nf L hm)).trans p1, p2, p3⟩
      have ho' : (s.heap.update T (Obj.mapFields (·.setIfInBounds 3 .none))).get? a = some o := (Heap.get?_update_other _ _ q2).trans ho
      exact newEntryFly (s := { s with heap := s.heap.update T (Obj.mapFields (·.setIfInBounds 3 .none)) }) hf fr' (k.upd q3 _ (t := s.toks)) h0 ho' hc hd hsz

theorem flightFly {A : Around} {s0 s : Shared} {cls : Value} {a : Addr} {E : Value → Shared → Prop} {fo : Option Addr} (k : KpW B W s0 s) (f : Fly1 B s0 cls a s.heap) :
    wpAny (model B.prog B.w) A (setFlight (.ref a) fo) (fun _ s' => KpW B W s0 s' ∧ Fly1 B s0 cls a s'.heap) E s := by
  obtain ⟨h0, o, vs, ho, hc, hd, hsz, T, oT, ts, q1, q2, q3, q4, q5, q6, q7⟩ := f
  unfold setFlight
  refine wpAny_bind (wpAny_field ho hd q1 ?_)
  rw [if_pos (show (Value.ref T != Value.none) = true from by simp)]
  refine wpAny_setField q4 q6 (by (clear hsz; (first | lia | omega))) ⟨k.upd q3 _, h0, o, vs, (Heap.get?_update_other _ _ q2).trans ho, hc, hd, hsz, T, _, _, q1, q2, q3, Heap.get?_update_self _ q4 (Obj.isFreed_of_fields (Obj.data_mapFields q6 _)), (Obj.cls_mapFields ..).trans q5, Obj.data_mapFields q6 _, by simpa using q7⟩

theorem leaveFly {A : Around} {env : Env} {s0 s : Shared} {cls : Value} {a L : Addr} {E : Value → Shared → Prop} (hf : env.frame = some L) (fr : Fr1 B A env s) (k : KpW B W s0 s) (f : Fly B s0 cls a s.heap) :
    wpAny (model B.prog B.w) A (leaving env (.ref a)) (fun _ s' => KpW B W s0 s' ∧ Fly1 B s0 cls a s'.heap) E s := by
  unfold leaving
  exact wpAny_bind (wpAny_mono (noteFly hf fr k f) (fun _ s' hz1 => by obtain ⟨h1, h2⟩ := hz1; exact flightFly h1 h2) fun _ _ x => x)
end
end Mine
end

section
open PySem PySem.W PyProof.Rows PySem.Calls
set_option Elab.async false
set_option maxRecDepth 100000
set_option linter.unusedVariables false
namespace Mine

structure InF (s₀ : Shared) (L : Addr) (m : Str → Option Value) (cs : List (Str × Addr)) (cm : Str → Option Value) (s : Shared) : Prop where
  c : InCallC s₀ L m cs cm s
  f : ∃ o, s.heap.get? L = some o ∧ o.cls = .type "frame"

section
variable {M : Model} {A : Around} {E : Value → Shared → Prop} {s₀ s : Shared} {m cm : Str → Option Value} {env : Env}
theorem InF.loc {n : Str} {v : Value} {Q : Unit → Shared → Prop} (x : InF s₀ env.locals m env.cells cm s) (hk : env.scope.kind = .function) (hl : env.kindOf n = some .local)
    (h : ∀ s', InF s₀ env.locals (fun y => if y = n then some v else m y) env.cells cm s' → Q () s') : wpAny M A (storeName env n v) Q E s := by
  obtain ⟨o, ho, hc⟩ := x.f
  have y := x.c
  rw [storeName_local hl (by rw [hk]; rfl)]
  refine nsSet_cls y.toInCall.ns ho fun h' o' hn' hs' ho' hc' => h _ ⟨⟨⟨?_, hn', fun b ob e => ?_, y.toInCall.fresh⟩, fun k c hq => ?_, y.apart, y.above⟩, o', ho', hc'.trans hc⟩
  · obtain ⟨h₁, tk, rfl⟩ := y.toInCall.same; exact ⟨h', _, rfl⟩
  · exact hs'.extBut b ob (Nat.ne_of_lt (Nat.lt_of_lt_of_le (Heap.lt_size e) y.toInCall.fresh)) (y.toInCall.keep b ob e)
  · exact (y.cell k c hq).sameBut hs' (Nat.ne_of_gt (y.above k c (mem_of_lookup hq)))
theorem InF.cel {n : Str} {c : Addr} {v : Value} {Q : Unit → Shared → Prop} (x : InF s₀ env.locals m env.cells cm s) (hk : env.scope.kind = .function) (hl : env.kindOf n = some .cell)
    (hc : env.cells.lookup n = some c) (h : ∀ s', InF s₀ env.locals m env.cells (fun y => if y = n then some v else cm y) s' → Q () s') : wpAny M A (storeName env n v) Q E s := by
  obtain ⟨o, ho, ho2⟩ := x.f
  have y := x.c
  have hLc := y.above n c (mem_of_lookup hc)
  refine wpAny_storeName_cell hk hl hc (y.cell n c hc) fun h' hc' hs' => h _ ⟨⟨⟨?_, y.toInCall.ns.sameBut hs' (Nat.ne_of_lt hLc), fun b ob e => ?_, y.toInCall.fresh⟩, fun k c' hk' => ?_, y.apart, y.above⟩, o, (hs'.2 _ (Nat.ne_of_lt hLc)).trans ho, ho2⟩
  · obtain ⟨h₁, tk, rfl⟩ := y.toInCall.same; exact ⟨h', _, rfl⟩
  · exact hs'.extBut b ob (Nat.ne_of_lt (Nat.lt_trans (Nat.lt_of_lt_of_le (Heap.lt_size e) y.toInCall.fresh) hLc)) (y.toInCall.keep b ob e)
  · by_cases hkn : k = n
    · subst hkn
      rw [hc] at hk'; cases hk'
      simpa using hc'
    · rw [if_neg hkn]
      exact (y.cell k c' hk').sameBut hs' fun e => hkn (name_of_addr y.apart (mem_of_lookup hk') (e ▸ mem_of_lookup hc))
theorem InF.binds (f : Str × Value → PUnit → Sem (ForInStep PUnit)) (hf : ∀ n v u, f (n, v) u = (do storeName env n v; pure (.yield ⟨⟩))) (hk : env.scope.kind = .function) :
    ∀ (bs : List (Str × Value)) (m cm : Str → Option Value) (s : Shared) (Q : PUnit → Shared → Prop), InF s₀ env.locals m env.cells cm s →
      (∀ x ∈ bs, env.kindOf x.1 = some .local ∨ (env.kindOf x.1 = some .cell ∧ (env.cells.lookup x.1).isSome = true)) →
      (∀ s', InF s₀ env.locals (bindL env.kindOf bs m) env.cells (bindC env.kindOf bs cm) s' → Q ⟨⟩ s') → wpAny M A (forIn bs ⟨⟩ f) Q E s := by
  intro bs
  induction bs with
  | nil => intro m cm s Q x _ h; rw [List.forIn_nil]; exact wpAny_pure (h s x)
  | cons p r ih =>
    intro m cm s Q x hkind h
    obtain ⟨n, v⟩ := p
    rw [List.forIn_cons, hf]
    have hr : ∀ y ∈ r, env.kindOf y.1 = some .local ∨ (env.kindOf y.1 = some .cell ∧ (env.cells.lookup y.1).isSome = true) := fun y hy => hkind y (List.mem_cons_of_mem _ hy)
    rcases hkind (n, v) List.mem_cons_self with hl | ⟨hl, hc⟩
    · refine wpAny_bind (wpAny_bind (x.loc hk hl fun s' x' => wpAny_pure (ih _ _ s' Q x' hr fun s'' x'' => h s'' ?_)))
      simpa only [bindL, bindC, if_pos hl] using x''
    · obtain ⟨c, hc⟩ := Option.isSome_iff_exists.mp hc
      have hnl : ¬ env.kindOf n = some .local := by rw [hl]; decide
      refine wpAny_bind (wpAny_bind (x.cel hk hl hc fun s' x' => wpAny_pure (ih _ _ s' Q x' hr fun s'' x'' => h s'' ?_)))
      simpa only [bindL, bindC, if_neg hnl] using x''
theorem newEnvF {scope : Scope} {globals : Addr} {bs : List (Str × Value)} {qual : Str} {func : Option Addr} {code : Value} {builtins : Addr} {Q : Env → Shared → Prop}
    (hk : scope.kind = .function)
    (hkind : ∀ x ∈ bs, scope.names.lookup x.1 = some .local ∨ (scope.names.lookup x.1 = some .cell ∧ ((cellsFrom (s.heap.objs.size + 1) scope.names []).lookup x.1).isSome = true))
    (hQ : ∀ env, env = newEnv scope s.heap.objs.size globals (cellsFrom (s.heap.objs.size + 1) scope.names []) qual func code none builtins →
      ∀ s', InF s env.locals (bindL env.kindOf bs fun _ => none) env.cells (bindC env.kindOf bs fun _ => none) s' → Q env s') :
    wpAny M A (newFunctionEnv scope globals [] bs qual func code none builtins) Q E s := by
  simp only [newFunctionEnv, Option.isSome_none, Bool.false_eq_true, if_false]
  refine wpAny_bind (wpAny_alloc ?_)
  refine wpAny_bind (wpAny_layCells _ (fun name kind cells => by cases hkc : kind == NameKind.cell <;> simp [hkc]) _ _ _ _ ?_)
  have ok := cellsFrom_ok scope.names (s.heap.push { cls := .type "frame", data := .dict #[] }) (s.heap.objs.size + 1) [] ⟨fun _ _ hm => (nomatch hm), List.Pairwise.nil⟩ (by rw [Heap.size_push]; exact Nat.le_refl _)
  rw [Heap.size_push] at ok
  rw [show ({ s with heap := s.heap.push { cls := .type "frame", data := .dict #[] } } : Shared).heap.objs.size = s.heap.objs.size + 1 from Heap.size_push ..]
  have hL : (pushCells (s.heap.push { cls := .type "frame", data := .dict #[] }) scope.names).get? s.heap.objs.size = some { cls := .type "frame", data := .dict #[] } := pushCells_keeps _ _ _ _ (Heap.get?_push_size _ rfl)
  refine wpAny_bind (InF.binds (s₀ := s) (env := newEnv scope s.heap.objs.size globals (cellsFrom (s.heap.objs.size + 1) scope.names []) qual func code none builtins)
    _ (fun _ _ _ => rfl) hk bs (fun _ => none) (fun _ => none) _ _
    ⟨⟨⟨⟨_, _, rfl⟩, (Heap.Ns.new s.heap (.type "frame")).keeps (pushCells_keeps _ _), fun b o e => pushCells_keeps _ _ b o (Heap.get?_push_of_some _ e), Nat.le_refl _⟩,
      fun n c hn => (ok.empty n c (mem_of_lookup hn)).1, ok.apart, fun n c hm => (ok.empty n c hm).2⟩, _, hL, rfl⟩ hkind fun s' x => wpAny_pure (hQ _ rfl s' x))
end

inductive Ag where
  | im (d : D)
  | ct (c : Cont)
inductive Rs where
  | im (d : D)
  | fr (c : Cont)
noncomputable def Ag.sl : Ag → Sl
  | .im d => .im d
  | .ct c => .fz c
noncomputable def AV.ag : AV → Ag
  | .im d => .im d
  | .ct _ c => .ct c
noncomputable def Rs.av : Rs → AV
  | .im d => .im d
  | .fr c => .ct .fr c

section
variable {B : Bs} {F : Fi} {X : Str → Prop} {n : Nat} {ρ : List (Option Sl)}

noncomputable def AgR (B : Bs) (h : Heap) (v : Value) : Ag → Prop
  | .im d => Im h v d
  | .ct c => ∃ a, Vw h v a c ∧ ContAt B h a c
theorem VR.ag {env oa} {s s' : Shared} {v : Value} {r : AV} (x : VR B env oa s s' v r) : AgR B s'.heap v r.ag := by
  cases r with
  | im d => exact x
  | ct m c => exact x.cont
noncomputable def RsR (B : Bs) (s s' : Shared) (v : Value) : Rs → Prop
  | .im d => Im s'.heap v d
  | .fr c => ∃ a, Vw s'.heap v a c ∧ ContAt B s'.heap a c ∧ s.heap.get? a = none
theorem RsR.vr {env oa} {s s' : Shared} {v : Value} {q : Rs} (x : RsR B s s' v q) : VR B env oa s s' v q.av := by
  cases q <;> exact x

noncomputable def CallPo (B : Bs) (X : Str → Prop) (Q : Rs → Prop) (s : Shared) : Result → Shared → Prop
  | .ok (.ret v), s' => ∃ q, Q q ∧ Kp B s s' ∧ RsR B s s' v q
  | .ok _, _ => False
  | .error e, s' => EP B X s e s'
noncomputable def Spec (B : Bs) (f : Str) (X : Str → Prop) (n : Nat) (ags : List Ag) (Q : Rs → Prop) : Prop :=
  ∃ fa o fd, B.mg f = some (.ref fa) ∧ B.hB.get? fa = some o ∧ o.data = .func fd ∧
    ∀ A s vs, Bas B s → Ar B A n s → vs.length = ags.length → (∀ (i : Nat) v g, vs[i]? = some v → ags[i]? = some g → AgR B s.heap v g) →
      codeAny (model B.prog B.w) A (.call (.ref fa) ⟨vs, []⟩) (CallPo B X Q s) s
theorem Spec.mono {f ags} {X' : Str → Prop} {m : Nat} {Q Q' : Rs → Prop} (h : Spec B f X n ags Q) (hm : n ≤ m) (q : ∀ r, Q r → Q' r) (hX : ∀ c, X c → X' c) : Spec B f X' m ags Q' := by
  obtain ⟨fa, o, fd, h1, h2, h3, h4⟩ := h
  refine ⟨fa, o, fd, h1, h2, h3, fun A s vs b a hl hv => codeAny_mono (h4 A s vs b (a.le hm) hl hv) fun r s' x => ?_⟩
  cases r with
  | error e => obtain ⟨c, cv, a, h5, h6⟩ := x; exact ⟨c, cv, a, hX c h5, h6⟩
  | ok r => cases r with
    | ret v => obtain ⟨r, h5, h6⟩ := x; exact ⟨r, q r h5, h6⟩
    | next => exact x.elim
    | brk => exact x.elim
    | cont => exact x.elim

theorem EW.call {f : Str} {p1 : Pos} {e : Expr} {rest : List Expr} {pos : Pos} {Q : AV → Prop} (hk : F.scope.names.lookup f = some .globalImplicit)
    (h : LW B F X n ρ (e :: rest) fun rs => Spec B f X n (rs.map AV.ag) fun q => Q q.av)
    (hf0 : ∃ fa o fd, B.mg f = some (.ref fa) ∧ B.hB.get? fa = some o ∧ o.data = .func fd)
    (he : ∀ env, starEach (e :: rest) env = (false, eval e env) :: starEach rest env := by intro _; rfl) (hd : (f == ("__debug__" : Str)) = false := by decide) :
    EW B F X n ρ (.Call (.Name f p1) (e :: rest) [] pos) Q := by
  refine .mk ?_
  intro env oa A s R a
  obtain ⟨fa, o, fd, h1, h2, h3⟩ := hf0
  have hkf : env.scope.kind = .function := by rw [R.scope]; exact F.fn
  have hx : env.kindOf f = some .globalImplicit := by unfold Env.kindOf; rw [R.scope]; exact hk
  have ks : ∀ {s' : Shared}, (∀ b o, B.hB.get? b = some o → s'.heap.get? b = some o) → s'.heap.Ns env.globals B.mg := fun q => by rw [R.globals]; exact B.g.keeps q
  refine wpAny_Call_ofName (Name_function_global hkf hx (loadGlobal_global (ks R.base) h1 ?_) hd)
  show wpAny _ _ (callWith pos (.ref fa) [] (backTo pos (starEach (e :: rest) env)) []) _ _ s
  refine callWith_def h3 (wpAny_mono (h.go env oa A s pos R a) (fun vs s1 hz1 => ?_) fun _ _ x => x) (he env)
  obtain ⟨rs, sp, k1, hl, hv⟩ := hz1
  have R1 := R.kp k1
  obtain ⟨fa', o', fd', g1, g2, g3, g4⟩ := sp
  rw [h1] at g1; cases g1
  refine ⟨R1.base _ _ h2, wpAny_call (codeAny_mono (g4 A s1 vs R1.base (a.kp k1) (by simp [hl]) fun i v g q1 q2 => ?_) fun r s2 x => ?_)⟩
  · rw [List.getElem?_map] at q2
    cases hq : rs[i]? with
    | none => rw [hq] at q2; cases q2
    | some r => rw [hq] at q2; cases q2; exact (hv i v r q1 hq).ag
  · match r, x with
    | .ok (.ret v), ⟨r, h5, h6, h7⟩ => exact ⟨r.av, h5, k1.trans h6, (RsR.vr h7).back k1⟩
    | .ok .next, x => exact x.elim
    | .ok .brk, x => exact x.elim
    | .ok .cont, x => exact x.elim
    | .error e, x => exact EP.back k1 x
end

noncomputable def RetOk (Q : Rs → Prop) : Fl → List (Option Sl) → Prop
  | .ret (.im d), _ => Q (.im d)
  | .ret (.ct .fr c), _ => Q (.fr c)
  | .ret (.ct (.ow _) c), _ => Q (.fr c)
  | .ret (.ct .fz _), _ => False
  | .next, _ => Q (.im .none)
  | _, _ => False

structure FnAt (B : Bs) (f : Str) (names : List Str) (body : List Stmt) (scope : Scope) : Prop where
  ex : ∃ fa o fd, B.mg f = some (.ref fa) ∧ B.hB.get? fa = some o ∧ o.data = .func fd ∧ fd.body = .stmts body ∧ fd.scope = scope ∧ fd.globals = mainGlobals ∧ fd.closure = [] ∧ fd.builtins = builtinsNs ∧
    B.hB.CodeRec fd.code fd.qualname ∧ ∀ vs, vs.length = names.length → bindArgs fd ⟨vs, []⟩ = pure (names.zip vs)
  co : scope.isCoroutine = false
  gen : scope.isGenerator = false
  cells : ((cellsFrom 0 scope.names []).map (·.1)).Nodup
theorem FnAt.some {B : Bs} {f names body scope} (h : FnAt B f names body scope) : ∃ fa o fd, B.mg f = some (.ref fa) ∧ B.hB.get? fa = some o ∧ o.data = .func fd :=
  by obtain ⟨fa, o, fd, h1, h2, h3, _⟩ := h.ex; exact ⟨fa, o, fd, h1, h2, h3⟩

theorem bindL_lookup {kindOf : Str → Option NameKind} {x : Str} (hx : kindOf x = some .local) : ∀ (names : List Str) (vs : List Value) (m : Str → Option Value), names.Nodup → vs.length = names.length →
    ∀ (j : Nat), names[j]? = some x → ∀ v, vs[j]? = some v → bindL kindOf (names.zip vs) m x = some v
  | [], _, _, _, _, j, h, _, _ => by simp at h
  | y :: ys, [], _, _, hl, _, _, _, _ => by simp at hl
  | y :: ys, u :: us, m, nd, hl, 0, h, v, hv => by
    simp at h hv; subst h; subst hv
    simp only [List.zip_cons_cons, bindL, hx, if_true]
    have : ∀ (names : List Str) (vs : List Value) (m : Str → Option Value), y ∉ names → bindL kindOf (names.zip vs) m y = m y := by
      intro names
      induction names with
      | nil => intro vs m _; rfl
      | cons z zs ih =>
        intro vs m hn
        simp only [List.mem_cons, not_or] at hn
        cases vs with
        | nil => rfl
        | cons w ws =>
          simp only [List.zip_cons_cons, bindL]
          rw [ih ws _ hn.2]
          split
          · simp [hn.1]
          · rfl
    rw [this ys us _ (List.nodup_cons.mp nd).1]; simp
  | y :: ys, u :: us, m, nd, hl, j + 1, h, v, hv => by
    simp only [List.zip_cons_cons, bindL]
    exact bindL_lookup hx ys us _ (List.nodup_cons.mp nd).2 (by simpa using hl) j (by simpa using h) v (by simpa using hv)
theorem bindC_lookup {kindOf : Str → Option NameKind} {x : Str} (hx : kindOf x ≠ some .local) : ∀ (names : List Str) (vs : List Value) (m : Str → Option Value), names.Nodup → vs.length = names.length →
    ∀ (j : Nat), names[j]? = some x → ∀ v, vs[j]? = some v → bindC kindOf (names.zip vs) m x = some v
  | [], _, _, _, _, j, h, _, _ => by simp at h
  | y :: ys, [], _, _, hl, _, _, _, _ => by simp at hl
  | y :: ys, u :: us, m, nd, hl, 0, h, v, hv => by
    simp at h hv; subst h; subst hv
    simp only [List.zip_cons_cons, bindC, if_neg hx]
    have : ∀ (names : List Str) (vs : List Value) (m : Str → Option Value), y ∉ names → bindC kindOf (names.zip vs) m y = m y := by
      intro names
      induction names with
      | nil => intro vs m _; rfl
      | cons z zs ih =>
        intro vs m hn
        simp only [List.mem_cons, not_or] at hn
        cases vs with
        | nil => rfl
        | cons w ws =>
          simp only [List.zip_cons_cons, bindC]
          rw [ih ws _ hn.2]
          split
          · rfl
          · simp [hn.1]
    rw [this ys us _ (List.nodup_cons.mp nd).1]; simp
  | y :: ys, u :: us, m, nd, hl, j + 1, h, v, hv => by
    simp only [List.zip_cons_cons, bindC]
    exact bindC_lookup hx ys us _ (List.nodup_cons.mp nd).2 (by simpa using hl) j (by simpa using h) v (by simpa using hv)

noncomputable def start (F : Fi) (ags : List Ag) : List (Option Sl) := (ags.map fun g => some g.sl) ++ List.replicate (F.vars.length - ags.length) none

theorem bodyCore {B : Bs} {F : Fi} {X : Str → Prop} {n : Nat} {names : List Str} {body : List Stmt} {fa : Addr} {o : Obj} {fd} {ρ0 : List (Option Sl)} {oa0 : Nat → Option Addr} {Q : Fl → List (Option Sl) → Prop} {A : Around} {s : Shared} {vs : List Value} {P : Result → Shared → Prop}
    (h2 : B.hB.get? fa = some o) (h3 : o.data = .func fd) (hb : fd.body = .stmts body) (hs : fd.scope = F.scope) (hg : fd.globals = mainGlobals) (hc : fd.closure = []) (hbu : fd.builtins = builtinsNs)
    (hcd : B.hB.CodeRec fd.code fd.qualname) (hbind : ∀ vs, vs.length = names.length → bindArgs fd ⟨vs, []⟩ = pure (names.zip vs)) (co : F.scope.isCoroutine = false) (gen : F.scope.isGenerator = false) (cells : ((cellsFrom 0 F.scope.names []).map (·.1)).Nodup)
    (hv : (F.vars.map (·.1)).take names.length = names) (hnf : (F.vars.all fun x => decide (x.2 ≠ .fre)) = true)
    (bas : Bas B s) (ar : Ar B A (n + 1) s) (hlen' : vs.length = names.length)
    (hoa : ∀ i a, oa0 i = some a → B.hB.get? a = none ∧ ∃ o, s.heap.get? a = some o) (hinj : ∀ i j a, oa0 i = some a → oa0 j = some a → i = j)
    (hslots : ∀ (env : Env) (h' : Heap), Grow s.heap h' → (∀ b o, s.heap.get? b = some o → h'.get? b = some o) → (∀ b, Priv env b → s.heap.get? b = none) → (∀ (j : Nat) x k v, F.vars[j]? = some (x, k) → vs[j]? = some v → VarAt env h' x k v) →
      ∀ (j : Nat) x k sl, F.vars[j]? = some (x, k) → ρ0[j]? = some (some sl) → SlotOk B env oa0 h' j x k sl)
    (h : SWs B F X n ρ0 body Q)
    (hret : ∀ env oa' ρ' fl v s', Q fl ρ' → Rp B F env oa' ρ' s' → KpW B (fun b => ∃ i, oa0 i = some b) s s' → OwnFrom s oa0 oa' → ((fl = .next ∧ v = .none) ∨ ∃ r, fl = .ret r ∧ VR B env oa' s s' v r) → P (.ok (.ret v)) s')
    (hbad : ∀ ρ', ¬ Q .brk ρ' ∧ ¬ Q .cont ρ') (herr : ∀ e s', EPW B (fun b => ∃ i, oa0 i = some b) X s e s' → P (.error e) s') :
    codeAny (model B.prog B.w) A (.call (.ref fa) ⟨vs, []⟩) P s := by
  have hk : fd.scope.kind = .function := by rw [hs]; exact F.fn
  refine codeAny_call_function (by have := ar.depth; (clear hlen'; (first | lia | omega))) (bas _ _ h2) h3 (hs ▸ co) (hs ▸ gen) hb (hcd.keeps bas) ?_
  rw [hbind vs hlen']
  refine wpAny_pure ?_
  rw [hc]
  -- the parameters' places
  have nd : names.Nodup := by rw [← hv]; exact List.Sublist.nodup (List.take_sublist _ _) F.nodup
  have place : ∀ (j : Nat) x, names[j]? = some x → ∃ k, F.vars[j]? = some (x, k) := fun j x hj => by
    rw [← hv, List.getElem?_take] at hj
    split at hj
    · rw [List.getElem?_map] at hj
      cases hq : F.vars[j]? with
      | none => rw [hq] at hj; cases hj
      | some p => rw [hq] at hj; obtain ⟨y, k⟩ := p; cases hj; exact ⟨k, rfl⟩
    · cases hj
  have nofre : ∀ (j : Nat) x k, F.vars[j]? = some (x, k) → k ≠ .fre := fun j x k hj => by
    have := List.all_eq_true.mp hnf _ (List.mem_of_getElem? hj); simpa using this
  have cellAt : ∀ (m j : Nat) x, F.vars[j]? = some (x, .cel) → ((cellsFrom m fd.scope.names []).lookup x).isSome = true := fun m j x hj =>
    cellsFrom_some _ _ _ (.inl (by rw [hs]; exact (F.at hj).1))
  refine newEnvF hk (fun p hp => ?_) fun env he s1 xf => ?_
  · obtain ⟨j, hj⟩ := List.mem_iff_getElem?.mp hp
    rw [List.getElem?_zip_eq_some] at hj
    obtain ⟨k, hk'⟩ := place j p.1 hj.1
    cases k with
    | loc => exact .inl (by rw [hs]; exact (F.at hk').1)
    | cel => exact .inr ⟨by rw [hs]; exact (F.at hk').1, cellAt _ j p.1 hk'⟩
    | fre => exact (nofre j p.1 _ hk' rfl).elim
  have x := xf.c
  have kk := x.toInCall.keep
  refine ⟨(B.lim.keeps bas).keeps kk, codeAny_func ?_⟩
  obtain ⟨h', tk, rfl, _⟩ := x.done
  have hloc : env.locals = s.heap.objs.size := by rw [he]; rfl
  have hfr : env.frame = some env.locals := by rw [he]; rfl
  have hsc : env.scope = F.scope := by rw [he]; exact hs
  have hgl : env.globals = mainGlobals := by rw [he]; exact hg
  have hbt : env.builtins = builtinsNs := by rw [he]; exact hbu
  have hcl : env.cells = cellsFrom (s.heap.objs.size + 1) fd.scope.names [] := by rw [he]; rfl
  have k01 : Kp B s { s with heap := h', toks := tk } := Kp.of kk
  have newAt : ∀ a, s.heap.objs.size ≤ a → s.heap.get? a = none := fun a ha => by
    cases e : s.heap.get? a with
    | none => rfl
    | some o => exact absurd (Heap.lt_size e) (Nat.not_lt.mpr ha)
  have newB : ∀ a, s.heap.get? a = none → B.hB.get? a = none := fun a ha => by
    cases e : B.hB.get? a with
    | none => rfl
    | some o => rw [bas a o e] at ha; cases ha
  have privS : ∀ a, Priv env a → s.heap.get? a = none := by
    rintro a (q | q)
    · exact newAt a (by rw [q, hloc]; exact Nat.le_refl _)
    · obtain ⟨p, hp, rfl⟩ := List.mem_map.mp q.2
      have := x.above p.1 p.2 hp
      rw [hloc] at this
      exact newAt _ (Nat.le_of_lt this)
  have cnames : (env.cells.map (·.1)).Nodup := by rw [hcl]; exact cellsFrom_names fd.scope.names 0 (s.heap.objs.size + 1) [] [] rfl ▸ (hs ▸ cells)
  have R : Rp B F env oa0 ρ0 { s with heap := h', toks := tk } := by
    refine ⟨fun b o e => kk b o (bas b o e), hsc, hgl, hbt, ⟨_, x.toInCall.ns⟩, fun j y k hj hne => ?_, fun y z c hy hz => ?_, fun y c hm => ?_, fun y c hm => ?_, ?_, hslots env h' k01.tups kk privS ?_, hinj, fun i a q => ?_⟩
    · cases k with
      | loc => exact (hne rfl).elim
      | fre => exact (nofre j y _ hj rfl).elim
      | cel =>
        obtain ⟨c, hc'⟩ := Option.isSome_iff_exists.mp (cellAt (s.heap.objs.size + 1) j y hj)
        rw [← hcl] at hc'
        exact ⟨c, _, hc', x.cell y c hc', fun _ => x.above y c (mem_of_lookup hc')⟩
    · exact name_of_addr x.apart (mem_of_lookup hy) (mem_of_lookup hz)
    · exact Nat.ne_of_gt (x.above y c hm)
    · exact ⟨_, x.cell y c (lookup_of_mem_nodup cnames hm)⟩
    · rintro a (q | ⟨y, q⟩)
      · exact newB a (privS a (.inl q))
      · exact newB a (privS a (.inr ⟨x.above y a q, List.mem_map.mpr ⟨_, q, rfl⟩⟩))
    · -- a parameter
      intro j y k v hj hvj
      have hjl : j < names.length := by
        have := (List.getElem?_eq_some_iff.mp hvj).1
        (first | lia | omega)
      obtain ⟨z, hz⟩ : ∃ z, names[j]? = some z := ⟨names[j]'hjl, List.getElem?_eq_getElem hjl⟩
      obtain ⟨k2, hk2⟩ := place j z hz
      rw [hk2] at hj; cases hj
      have hkind : env.kindOf y = some k.kind := by unfold Env.kindOf; rw [hsc]; exact (F.at hk2).1
      cases k with
      | loc => exact ⟨_, x.toInCall.ns, bindL_lookup hkind names vs _ nd hlen' j hz v hvj⟩
      | fre => exact (nofre j y _ hk2 rfl).elim
      | cel =>
        obtain ⟨c, hc'⟩ := Option.isSome_iff_exists.mp (cellAt (s.heap.objs.size + 1) j y hk2)
        rw [← hcl] at hc'
        have := x.cell y c hc'
        rw [bindC_lookup (by rw [hkind]; decide) names vs _ nd hlen' j hz v hvj] at this
        exact ⟨c, hc', this⟩
    · obtain ⟨h5, o5, h6⟩ := hoa i a q
      refine ⟨fun q' => ?_, h5, o5, kk _ _ h6⟩
      rw [privS a q'] at h6; cases h6
  have hLo : ∃ o es ep, h'.get? env.locals = some o ∧ o.cls = .type "frame" ∧ o.data = .dict es ep := by
    obtain ⟨o, ho, hcl'⟩ := xf.f
    obtain ⟨o', es, ep, ho', hd, _⟩ := x.toInCall.ns
    rw [ho] at ho'; cases ho'
    exact ⟨o, es, ep, ho, hcl', hd⟩
  have ar' : Ar B (A.deeper env) n { s with heap := h', toks := tk } := by
    obtain ⟨l, f1, f2, f3⟩ := ar.frames
    have f2' := FunFrames.kp k01 f2
    refine ⟨by show A.depth + 1 + n < _; have := ar.depth; (clear hlen'; (first | lia | omega)), by show A.units + 3 + 10 * n < _; have := ar.units; (clear hlen'; (first | lia | omega)), ar.handled, env :: l, by show A.frames.map (env :: ·) = _; rw [f1]; rfl, ?_, ?_⟩
    · obtain ⟨o, es, ep, ho, _, hd⟩ := hLo
      exact ⟨by rw [hsc, F.fn]; decide, ⟨env.locals, o, hfr, newB _ (privS _ (.inl rfl)), ho, fun vs q => by rw [hd] at q; cases q⟩, f2'⟩
    · intro L hL
      rw [List.filterMap_cons, hfr] at hL
      rcases List.mem_cons.mp hL with rfl | hL
      · exact hLo
      · obtain ⟨o, es, ep, ho, q⟩ := f3 L hL
        exact ⟨o, es, ep, kk _ _ ho, q⟩
  have fw : ∀ b, FW env oa0 b → ((∃ i, oa0 i = some b) ∨ s.heap.get? b = none) := by
    rintro b (q | ⟨i, q⟩)
    · exact .inr (privS b q)
    · exact .inl ⟨i, q⟩
  have hdd : Hd (A.deeper env) env := by
    obtain ⟨l, f1, _⟩ := ar.frames
    exact ⟨⟨l, by show A.frames.map (env :: ·) = some (env :: l); rw [f1]; rfl⟩, hfr⟩
  refine wpAny_mono (h.go env oa0 (A.deeper env) _ hdd R ar') (fun fl s' hp => ?_) fun e s' he' => ?_
  · obtain ⟨fl', ρ', oa', q1, q2, q3, q4, q5⟩ := hp
    have k : KpW B (fun b => ∃ i, oa0 i = some b) s s' := KpW.trans (Kp.toW k01) q4 fw
    have o5 : OwnFrom s oa0 oa' := fun i a q => (q5 i a q).imp (fun x => x) fun y => k01.fresh y
    cases fl with
    | next => cases fl' with
      | next => exact hret env oa' ρ' _ _ s' q1 q3 k o5 (.inl ⟨rfl, rfl⟩)
      | _ => exact q2.elim
    | brk => cases fl' with
      | brk => exact ((hbad ρ').1 q1).elim
      | _ => exact q2.elim
    | cont => cases fl' with
      | cont => exact ((hbad ρ').2 q1).elim
      | _ => exact q2.elim
    | ret v => cases fl' with
      | ret r => exact hret env oa' ρ' _ _ s' q1 q3 k o5 (.inr ⟨r, rfl, VR.back k01 q2⟩)
      | _ => exact q2.elim
  · obtain ⟨c, cv, a, q1, q2, rfl, q4, q5⟩ := he'
    have k : KpW B (fun b => ∃ i, oa0 i = some b) s s' := KpW.trans (Kp.toW k01) q4 fw
    have fr : Fr1 B (A.deeper env) env s' := by
      obtain ⟨l, f1, f2, f3⟩ := (ar'.kp q4).frames
      have : l = env :: (ar.frames.choose) := by
        have f0 := ar.frames.choose_spec.1
        have : A.frames.map (env :: ·) = some l := f1
        rw [f0] at this; exact (Option.some.inj this).symm
      subst this
      exact ⟨_, f1, f2, f3⟩
    exact wpAny_mono (leaveFly hfr fr k (q5.back k01)) (fun _ s'' hz2 => by obtain ⟨r1, r2⟩ := hz2; exact herr _ _ ⟨c, cv, a, q1, q2, rfl, r1, r2.fly⟩) fun _ _ x => x
theorem Spec.of_body {B : Bs} {F : Fi} {X : Str → Prop} {n : Nat} {f : Str} {names : List Str} {body : List Stmt} {ags : List Ag} {Q : Rs → Prop}
    (hf : FnAt B f names body F.scope) (hv : (F.vars.map (·.1)).take names.length = names) (hnf : (F.vars.all fun x => decide (x.2 ≠ .fre)) = true) (hl : ags.length = names.length)
    (h : SWs B F X n (start F ags) body (RetOk Q)) : Spec B f X (n + 1) ags Q := by
  obtain ⟨fa, o, fd, h1, h2, h3, hb, hs, hg, hc, hbu, hcd, hbind⟩ := hf.ex
  refine ⟨fa, o, fd, h1, h2, h3, fun A s vs bas ar hlen hargs => ?_⟩
  have kp : ∀ {s'}, KpW B (fun b => ∃ i : Nat, (none : Option Addr) = some b) s s' → Kp B s s' := fun k => k.mono fun b q => by obtain ⟨_, q⟩ := q; cases q
  refine bodyCore (oa0 := fun _ => none) h2 h3 hb hs hg hc hbu hcd hbind hf.co hf.gen hf.cells hv hnf bas ar (hlen.trans hl) (fun _ _ q => by cases q) (fun _ _ _ q => by cases q) (fun env h' g01 kk privS hvar j y k sl hj hρ => ?_) h (fun env oa' ρ' fl v s' q1 q3 k q5 hr => ?_) (fun _ => ⟨fun q => q, fun q => q⟩) (fun e s' x => ?_)
  · have hj' : j < ags.length := by
      by_cases q : j < ags.length
      · exact q
      · unfold start at hρ
        rw [List.getElem?_append_right (by simpa using Nat.le_of_not_lt q), List.getElem?_replicate] at hρ
        split at hρ <;> cases hρ
    unfold start at hρ
    rw [List.getElem?_append_left (by simpa using hj'), List.getElem?_map] at hρ
    obtain ⟨g, hg'⟩ : ∃ g, ags[j]? = some g := ⟨ags[j], List.getElem?_eq_getElem hj'⟩
    rw [hg'] at hρ; cases hρ
    obtain ⟨v, hvj⟩ : ∃ v, vs[j]? = some v := ⟨vs[j]'(by (first | lia | omega)), List.getElem?_eq_getElem (by (first | lia | omega))⟩
    have har := hargs j v g hvj hg'
    cases g with
    | im d => exact ⟨v, hvar j y k v hj hvj, Im.grow g01 har⟩
    | ct c =>
      obtain ⟨a, hva, hca⟩ := har
      refine ⟨a, .of (hvar j y k _ hj hvj) (hva.grow g01), hca.of_same (fun o e _ => kk _ _ e) g01, ?_⟩
      rintro (q | ⟨_, q⟩)
      · obtain ⟨o, ho⟩ := hca.exists
        rw [privS a q] at ho; cases ho
      · cases q
  · rcases hr with ⟨rfl, rfl⟩ | ⟨r, rfl, hr⟩
    · exact ⟨.im .none, q1, kp k, .none⟩
    · cases r with
      | im d => exact ⟨.im d, q1, kp k, hr⟩
      | ct m c => cases m with
        | fz => exact q1.elim
        | fr => exact ⟨.fr c, q1, kp k, hr⟩
        | ow i =>
          obtain ⟨a, e1, e2, e3⟩ := hr
          rcases q5 i a e3 with ⟨_, q⟩ | q
          · cases q
          · exact ⟨.fr c, q1, kp k, a, e1, e2, q⟩
  · obtain ⟨c, cv, a, q1, q2, q3, q4, q5⟩ := x
    exact ⟨c, cv, a, q1, q2, q3, kp q4, q5⟩
end Mine
end

section
open PySem PySem.W PyProof.Rows PySem.Calls
set_option Elab.async false
set_option maxRecDepth 100000
set_option linter.unusedVariables false
namespace Mine
section
variable {B : Bs} {n : Nat}

theorem VR.int {env oa} {s s' : Shared} {v : Value} {i : Int} (x : VR B env oa s s' v (.im (.int i))) : ∃ t, v = .int i t := by cases x; exact ⟨_, rfl⟩
theorem VR.str {env oa} {s s' : Shared} {v : Value} {i : Str} (x : VR B env oa s s' v (.im (.str i))) : ∃ t, v = .str i t := by cases x; exact ⟨_, rfl⟩
theorem VR.bool {env oa} {s s' : Shared} {v : Value} {i : Bool} (x : VR B env oa s s' v (.im (.bool i))) : v = .bool i := by cases x; rfl
theorem VR.none {env oa} {s s' : Shared} {v : Value} (x : VR B env oa s s' v (.im .none)) : v = .none := by cases x; rfl
theorem VR.tup {env oa} {s s' : Shared} {v : Value} {l : List D} (x : VR B env oa s s' v (.im (.tup l))) : ∃ a o vs m, v = .ref a ∧ s'.heap.get? a = some o ∧ o.cls = .type "tuple" ∧ o.data = .seq vs m ∧ Ims s'.heap vs.toList l := by
  cases x with
  | tup h1 h2 h3 h4 => exact ⟨_, _, _, _, rfl, h1, h2, h3, h4⟩

theorem BinS.add (a b : Int) : BinS B n .Add (.im (.int a)) (.im (.int b)) (.im (.int (a + b))) := fun env oa A s0 s vx vy E bs ar x y => by
  obtain ⟨t, rfl⟩ := x.int; obtain ⟨u, rfl⟩ := y.int
  exact PyProof.Rows.add_int ⟨Kp.toks, Im.int _ _⟩
theorem BinS.sub (a b : Int) : BinS B n .Sub (.im (.int a)) (.im (.int b)) (.im (.int (a - b))) := fun env oa A s0 s vx vy E bs ar x y => by
  obtain ⟨t, rfl⟩ := x.int; obtain ⟨u, rfl⟩ := y.int
  exact PyProof.Rows.sub_int ⟨Kp.toks, Im.int _ _⟩
theorem BinS.mul {a b : Int} (hm : IntMulOk a b) : BinS B n .Mult (.im (.int a)) (.im (.int b)) (.im (.int (a * b))) := fun env oa A s0 s vx vy E bs ar x y => by
  obtain ⟨t, rfl⟩ := x.int; obtain ⟨u, rfl⟩ := y.int
  exact PyProof.Rows.mul_int ⟨Kp.toks, Im.int _ _⟩ hm
theorem BinS.mod {a b : Int} (hb : b ≠ 0) : BinS B n .Mod (.im (.int a)) (.im (.int b)) (.im (.int (a.fmod b))) := fun env oa A s0 s vx vy E bs ar x y => by
  obtain ⟨t, rfl⟩ := x.int; obtain ⟨u, rfl⟩ := y.int
  exact PyProof.Rows.mod_int hb ⟨Kp.toks, Im.int _ _⟩
theorem BinS.fdiv {a b : Int} (hb : b ≠ 0) (hp : b.natAbs.log2 < 9000) : BinS B n .FloorDiv (.im (.int a)) (.im (.int b)) (.im (.int (a.fdiv b))) := fun env oa A s0 s vx vy E bs ar x y => by
  obtain ⟨t, rfl⟩ := x.int; obtain ⟨u, rfl⟩ := y.int
  exact PyProof.Rows.floordiv_int hb ⟨Kp.toks, Im.int _ _⟩ (.inl (PyProof.noPylong_of_log2 hp))
theorem UnS.neg (a : Int) : UnS B n .USub (.im (.int a)) (.im (.int (-a))) := fun env oa A s0 s vx E bs ar x => by
  obtain ⟨t, rfl⟩ := x.int
  exact PyProof.Rows.neg_int ⟨Kp.toks, Im.int _ _⟩
theorem CmpS.eqI (a b : Int) : CmpS B n .Eq (.im (.int a)) (.im (.int b)) (a == b) := fun env oa A s0 s vx vy E bs ar x y => by
  obtain ⟨t, rfl⟩ := x.int; obtain ⟨u, rfl⟩ := y.int
  exact PyProof.Rows.eq_int ⟨rfl, Kp.refl _⟩
theorem CmpS.neI (a b : Int) : CmpS B n .NotEq (.im (.int a)) (.im (.int b)) (a != b) := fun env oa A s0 s vx vy E bs ar x y => by
  obtain ⟨t, rfl⟩ := x.int; obtain ⟨u, rfl⟩ := y.int
  exact PyProof.Rows.ne_int ⟨rfl, Kp.refl _⟩
theorem CmpS.ltI (a b : Int) : CmpS B n .Lt (.im (.int a)) (.im (.int b)) (decide (a < b)) := fun env oa A s0 s vx vy E bs ar x y => by
  obtain ⟨t, rfl⟩ := x.int; obtain ⟨u, rfl⟩ := y.int
  exact PyProof.Rows.lt_int ⟨rfl, Kp.refl _⟩
theorem CmpS.gtI (a b : Int) : CmpS B n .Gt (.im (.int a)) (.im (.int b)) (decide (b < a)) := fun env oa A s0 s vx vy E bs ar x y => by
  obtain ⟨t, rfl⟩ := x.int; obtain ⟨u, rfl⟩ := y.int
  exact PyProof.Rows.gt_int ⟨rfl, Kp.refl _⟩
theorem CmpS.leI (a b : Int) : CmpS B n .LtE (.im (.int a)) (.im (.int b)) (decide (a ≤ b)) := fun env oa A s0 s vx vy E bs ar x y => by
  obtain ⟨t, rfl⟩ := x.int; obtain ⟨u, rfl⟩ := y.int
  exact PyProof.Rows.le_int ⟨rfl, Kp.refl _⟩
theorem CmpS.geI (a b : Int) : CmpS B n .GtE (.im (.int a)) (.im (.int b)) (decide (b ≤ a)) := fun env oa A s0 s vx vy E bs ar x y => by
  obtain ⟨t, rfl⟩ := x.int; obtain ⟨u, rfl⟩ := y.int
  exact PyProof.Rows.ge_int ⟨rfl, Kp.refl _⟩
theorem TruS.bool (b : Bool) : TruS B n (.im (.bool b)) b := fun env oa A s0 s vx E bs ar x => by
  rw [x.bool]; exact wpAny_truthy_bool ⟨rfl, Kp.refl _⟩
theorem TruS.int (a : Int) : TruS B n (.im (.int a)) (a != 0) := fun env oa A s0 s vx E bs ar x => by
  obtain ⟨t, rfl⟩ := x.int
  exact PyProof.Rows.truthy_int ⟨rfl, Kp.refl _⟩
theorem UnS.not {x : AV} {b : Bool} (h : TruS B n x b) : UnS B n .Not x (.im (.bool (!b))) := fun env oa A s0 s vx E bs ar x' =>
  PyProof.Rows.not_of (wpAny_mono (h env oa A s0 s vx E bs ar x') (fun v s' hz1 => by obtain ⟨e, k⟩ := hz1; subst e; exact ⟨k, Im.bool _⟩) fun _ _ x => x)

theorem CmpS.eqS (a b : Str) : CmpS B n .Eq (.im (.str a)) (.im (.str b)) (a == b) := fun env oa A s0 s vx vy E bs ar x y => by
  obtain ⟨t, rfl⟩ := x.str; obtain ⟨u, rfl⟩ := y.str
  exact PyProof.Rows.eq_str ⟨rfl, Kp.refl _⟩
theorem CmpS.neS (a b : Str) : CmpS B n .NotEq (.im (.str a)) (.im (.str b)) (a != b) := fun env oa A s0 s vx vy E bs ar x y => by
  obtain ⟨t, rfl⟩ := x.str; obtain ⟨u, rfl⟩ := y.str
  exact PyProof.Rows.ne_str ⟨rfl, Kp.refl _⟩
theorem BinS.addS {a b : Str} (h : a.length + b.length ≤ sizeLine) : BinS B n .Add (.im (.str a)) (.im (.str b)) (.im (.str (a ++ b))) := fun env oa A s0 s vx vy E bs ar x y => by
  obtain ⟨t, rfl⟩ := x.str; obtain ⟨u, rfl⟩ := y.str
  exact PyProof.Rows.add_str (fun t' tk => ⟨Kp.toks, Im.str _ _⟩) h
end
end Mine
end

section
open PySem PySem.W PyProof.Rows PySem.Calls
set_option Elab.async false
set_option maxRecDepth 100000
set_option linter.unusedVariables false
namespace Mine
section
variable {B : Bs} {F : Fi} {X : Str → Prop} {n : Nat} {ρ : List (Option Sl)}

theorem loadBuiltin {env oa A s} {f : Str} {fv : Value} {Q : Value → Shared → Prop} {E} (R : Rp B F env oa ρ s) (hk : F.scope.names.lookup f = some .globalImplicit) (hm : B.mg f = none) (hb : bootBuiltins f = some fv)
    (h : Q fv s) {pos} (hn : f ≠ "__name__" := by decide) (hd : (f == ("__debug__" : Str)) = false := by decide) : wpAny (model B.prog B.w) A (eval (.Name f pos) env) Q E s := by
  have hkf : env.scope.kind = .function := by rw [R.scope]; exact F.fn
  have hx : env.kindOf f = some .globalImplicit := by unfold Env.kindOf; rw [R.scope]; exact hk
  exact Name_function_global hkf hx (loadGlobal_builtin (by rw [R.globals]; exact B.g.keeps R.base) hm (by rw [R.builtins]; exact B.b.keeps R.base) ((B.bu f hn).trans hb) h) hd
theorem EW.glob {x : Str} {pos} {Q : AV → Prop} {v : Value} {d : D} (hk : F.scope.names.lookup x = some .globalImplicit) (hm : B.mg x = some v) (hv : Im B.hB v d) (h : Q (.im d)) (hd : (x == ("__debug__" : Str)) = false := by decide) :
    EW B F X n ρ (.Name x pos) Q := by
  refine .mk ?_
  intro env oa A s R a
  have hkf : env.scope.kind = .function := by rw [R.scope]; exact F.fn
  have hx : env.kindOf x = some .globalImplicit := by unfold Env.kindOf; rw [R.scope]; exact hk
  exact Name_function_global hkf hx (loadGlobal_global (by rw [R.globals]; exact B.g.keeps R.base) hm ⟨_, h, Kp.refl _, hv.grow fun b o _ _ e _ _ => R.base b o e⟩) hd

noncomputable def BuiS (B : Bs) (n : Nat) (fv : Value) (xs : List AV) (z : AV) : Prop :=
  ∀ env oa A s0 s vs (E : Value → Shared → Prop), Bas B s → Ar B A n s → vs.length = xs.length → (∀ (i : Nat) v r, vs[i]? = some v → xs[i]? = some r → VR B env oa s0 s v r) →
    wpAny (model B.prog B.w) A (PySem.call fv vs) (fun v s' => Kp B s s' ∧ VR B env oa s s' v z) E s
noncomputable def IsCallee : Value → Prop
  | .builtin _ => True
  | .type _ => True
  | _ => False
theorem EW.bcall {f : Str} {p1 : Pos} {e : Expr} {rest : List Expr} {pos : Pos} {Q : AV → Prop} {fv : Value} (hk : F.scope.names.lookup f = some .globalImplicit) (hm : B.mg f = none) (hb : bootBuiltins f = some fv) (hc : IsCallee fv)
    (h : LW B F X n ρ (e :: rest) fun rs => ∃ z, BuiS B n fv rs z ∧ Q z)
    (he : ∀ env, starEach (e :: rest) env = (false, eval e env) :: starEach rest env := by intro _; rfl) (hp : ∀ env, (backTo pos (starEach rest env)).any (·.1) = false := by intro _; rfl)
    (hn : f ≠ "__name__" := by decide) (hd : (f == ("__debug__" : Str)) = false := by decide) :
    EW B F X n ρ (.Call (.Name f p1) (e :: rest) [] pos) Q := by
  refine .mk ?_
  intro env oa A s R a
  refine wpAny_Call_ofName (loadBuiltin R hk hm hb ?_ hn hd)
  have go : wpAny (model B.prog B.w) A (spliced (backTo pos (starEach (e :: rest) env))) (fun vs s₁ => wpAny (model B.prog B.w) A (PySem.call fv vs) (fun v s' => ∃ r, Q r ∧ Kp B s s' ∧ VR B env oa s s' v r) (EP B X s) s₁) (EP B X s) s :=
    wpAny_mono (h.go env oa A s pos R a) (fun vs s1 ⟨rs, ⟨z, hz, q⟩, k1, hl, hv⟩ =>
      wpAny_mono (hz env oa A s s1 vs _ (R.kp k1).base (a.kp k1) hl hv) (fun v s2 hz2 => by obtain ⟨k2, x2⟩ := hz2; exact ⟨z, q, k1.trans k2, x2.back k1⟩) fun _ _ x => x) fun _ _ x => x
  cases fv with
  | builtin id => exact callWith_builtin1 go (he env) (hp env)
  | type T => exact PyProof.Rows.callWith_type1 go (he env) (hp env)
  | _ => exact hc.elim
theorem len1 {α : Type} {l : List α} (h : l.length = 1) : ∃ a, l = [a] := List.length_eq_one_iff.mp h
theorem lenS' {α : Type} {n : Nat} {l : List α} (h : l.length = n + 1) : ∃ a r, l = a :: r ∧ r.length = n := by
  cases l with
  | nil => cases h
  | cons a r => exact ⟨a, r, rfl, Nat.succ.inj h⟩
theorem len2 {α : Type} {l : List α} (h : l.length = 2) : ∃ a b, l = [a, b] := let ⟨a, _, e, h⟩ := lenS' h; let ⟨b, e'⟩ := len1 h; ⟨a, b, e'▸ e⟩
theorem len3 {α : Type} {l : List α} (h : l.length = 3) : ∃ a b c, l = [a, b, c] := let ⟨a, _, e, h⟩ := lenS' h; let ⟨b, c, e'⟩ := len2 h; ⟨a, b, c, e' ▸ e⟩
theorem len4 {α : Type} {l : List α} (h : l.length = 4) : ∃ a b c d, l = [a, b, c, d] := let ⟨a, _, e, h⟩ := lenS' h; let ⟨b, c, d, e'⟩ := len3 h; ⟨a, b, c, d, e' ▸ e⟩
theorem len5 {α : Type} {l : List α} (h : l.length = 5) : ∃ a b c d e, l = [a, b, c, d, e] := let ⟨a, _, e, h⟩ := lenS' h; let ⟨b, c, d, f, e'⟩ := len4 h; ⟨a, b, c, d, f, e' ▸ e⟩
theorem len6 {α : Type} {l : List α} (h : l.length = 6) : ∃ a b c d e f, l = [a, b, c, d, e, f] := let ⟨a, _, e, h⟩ := lenS' h; let ⟨b, c, d, f, g, e'⟩ := len5 h; ⟨a, b, c, d, f, g, e' ▸ e⟩
theorem BuiS.one {fv : Value} {x z : AV} (h : ∀ env oa A s0 s v (E : Value → Shared → Prop), Bas B s → Ar B A n s → VR B env oa s0 s v x → wpAny (model B.prog B.w) A (PySem.call fv [v]) (fun v s' => Kp B s s' ∧ VR B env oa s s' v z) E s) : BuiS B n fv [x] z :=
  fun env oa A s0 s vs E b a hl hv => by
    obtain ⟨v, rfl⟩ := len1 hl
    exact h env oa A s0 s v E b a (hv 0 v x rfl rfl)
theorem BuiS.two {fv : Value} {x y z : AV} (h : ∀ env oa A s0 s v u (E : Value → Shared → Prop), Bas B s → Ar B A n s → VR B env oa s0 s v x → VR B env oa s0 s u y → wpAny (model B.prog B.w) A (PySem.call fv [v, u]) (fun v s' => Kp B s s' ∧ VR B env oa s s' v z) E s) : BuiS B n fv [x, y] z :=
  fun env oa A s0 s vs E b a hl hv => by
    obtain ⟨v, u, rfl⟩ := len2 hl
    exact h env oa A s0 s v u E b a (hv 0 v x rfl rfl) (hv 1 u y rfl rfl)

theorem VR.lst {env oa} {s s' : Shared} {v : Value} {m : Md} {l : List D} (x : VR B env oa s s' v (.ct m (.lst l))) : ∃ a vs, v = .ref a ∧ s'.heap.IsList a vs ∧ Ims s'.heap vs.toList l := by
  obtain ⟨a, rfl, o, vs, k, h1, ⟨h2, _⟩, h3, h4⟩ := x.cont
  exact ⟨a, vs, rfl, ⟨o, h1, h2, k, h3⟩, h4⟩
theorem VR.isTup {env oa} {s s' : Shared} {v : Value} {l : List D} (x : VR B env oa s s' v (.im (.tup l))) : ∃ a vs, v = .ref a ∧ IsTup s'.heap a vs ∧ Ims s'.heap vs.toList l := by
  obtain ⟨a, o, vs, k, rfl, h1, h2, h3, h4⟩ := x.tup
  exact ⟨a, vs, rfl, ⟨o, h1, h2, k, h3⟩, h4⟩

theorem BuiS.lenL {m : Md} {l : List D} (h : l.length < 2 ^ 63) : BuiS B n (.builtin "len") [.ct m (.lst l)] (.im (.int l.length)) := .one fun env oa A s0 s v E b a x => by
  obtain ⟨a, vs, rfl, h1, h2⟩ := x.lst
  have e : vs.size = l.length := by rw [← Array.length_toList]; exact h2.length
  exact PyProof.Rows.len_list h1 (by rw [e]; exact_mod_cast h) (by rw [e]; exact ⟨Kp.toks, Im.int _ _⟩)
theorem BuiS.lenT {l : List D} (h : l.length < 2 ^ 63) : BuiS B n (.builtin "len") [.im (.tup l)] (.im (.int l.length)) := .one fun env oa A s0 s v E b a x => by
  obtain ⟨a, vs, rfl, h1, h2⟩ := x.isTup
  have e : vs.size = l.length := by rw [← Array.length_toList]; exact h2.length
  exact PyProof.Rows.len_tuple h1 (by rw [e]; exact_mod_cast h) (by rw [e]; exact ⟨Kp.toks, Im.int _ _⟩)
theorem BuiS.lenS {x : Str} (h : x.length < 2 ^ 63) : BuiS B n (.builtin "len") [.im (.str x)] (.im (.int x.length)) := .one fun env oa A s0 s v E b a y => by
  obtain ⟨t, rfl⟩ := y.str
  exact PyProof.Rows.len_str (by (first | lia | omega)) ⟨Kp.toks, Im.int _ _⟩

noncomputable def IsiS (B : Bs) (n : Nat) (x : AV) (T : String) (r : Bool) : Prop :=
  ∀ env oa A s0 s v (E : Value → Shared → Prop), Bas B s → Ar B A n s → VR B env oa s0 s v x → wpAny (model B.prog B.w) A (PySem.call (.builtin "isinstance") [v, .type T]) (fun v s' => v = .bool r ∧ Kp B s s') E s
theorem EW.isi {p1 p2 : Pos} {e : Expr} {t : Str} {pos : Pos} {Q : AV → Prop} {T : String} (hk : F.scope.names.lookup (Str.ofString "isinstance") = some .globalImplicit) (hm : B.mg (Str.ofString "isinstance") = none)
    (hk2 : F.scope.names.lookup t = some .globalImplicit) (hm2 : B.mg t = none) (hb2 : bootBuiltins t = some (.type T))
    (h : EW B F X n ρ e fun x => ∃ r, IsiS B n x T r ∧ Q (.im (.bool r))) (hb : bootBuiltins "isinstance" = some (.builtin "isinstance") := by decide +kernel)
    (he : ∀ env, starEach (e :: [.Name t p2]) env = (false, eval e env) :: starEach [.Name t p2] env := by intro _; rfl) (hn2 : t ≠ "__name__" := by decide) (hd2 : (t == ("__debug__" : Str)) = false := by decide) :
    EW B F X n ρ (.Call (.Name "isinstance" p1) [e, .Name t p2] [] pos) Q := by
  refine .mk ?_
  intro env oa A s R a
  refine wpAny_Call_ofName (loadBuiltin R hk hm hb ?_)
  refine callWith_builtin1 ?_ (he env)
  refine wpAny_items_cons (h.run R a (Kp.refl _) fun v s1 r hz3 k1 x1 => ?_) (he env)
  obtain ⟨b, hi, q⟩ := hz3
  refine wpAny_items_cons (loadBuiltin (R.kp k1) hk2 hm2 hb2 (wpAny_items_nil ?_) hn2 hd2)
  exact wpAny_mono (hi env oa A s s1 v _ (R.kp k1).base (a.kp k1) x1) (fun v s2 hz4 => by obtain ⟨e, k2⟩ := hz4; subst e; exact ⟨_, q, k1.trans k2, Im.bool _⟩) fun _ _ x => x
open IsiPair in
theorem IsiS.int_ (i : Int) : IsiS B n (.im (.int i)) "int" true ∧ IsiS B n (.im (.int i)) "bool" false ∧ IsiS B n (.im (.int i)) "str" false ∧ IsiS B n (.im (.int i)) "tuple" false ∧ IsiS B n (.im (.int i)) "list" false := by
  refine ⟨?_, ?_, ?_, ?_, ?_⟩ <;> (intro env oa A s0 s v E b a x; obtain ⟨t, rfl⟩ := x.int)
  · exact int_int ⟨rfl, Kp.refl _⟩
  · exact int_bool ⟨rfl, Kp.toks⟩
  · exact int_str ⟨rfl, Kp.toks⟩
  · exact int_tuple ⟨rfl, Kp.toks⟩
  · exact int_list ⟨rfl, Kp.toks⟩
open IsiPair in
theorem IsiS.str_ (i : Str) : IsiS B n (.im (.str i)) "int" false ∧ IsiS B n (.im (.str i)) "bool" false ∧ IsiS B n (.im (.str i)) "str" true ∧ IsiS B n (.im (.str i)) "tuple" false ∧ IsiS B n (.im (.str i)) "list" false := by
  refine ⟨?_, ?_, ?_, ?_, ?_⟩ <;> (intro env oa A s0 s v E b a x; obtain ⟨t, rfl⟩ := x.str)
  · exact str_int ⟨rfl, Kp.toks⟩
  · exact str_bool ⟨rfl, Kp.toks⟩
  · exact str_str ⟨rfl, Kp.refl _⟩
  · exact str_tuple ⟨rfl, Kp.toks⟩
  · exact str_list ⟨rfl, Kp.toks⟩
open IsiPair in
theorem IsiS.tup_ (l : List D) : IsiS B n (.im (.tup l)) "int" false ∧ IsiS B n (.im (.tup l)) "bool" false ∧ IsiS B n (.im (.tup l)) "str" false ∧ IsiS B n (.im (.tup l)) "tuple" true ∧ IsiS B n (.im (.tup l)) "list" false := by
  refine ⟨?_, ?_, ?_, ?_, ?_⟩ <;> (intro env oa A s0 s v E b a x; obtain ⟨a, o, vs, k, rfl, h1, h2, h3, h4⟩ := x.tup)
  · exact tuple_int h1 h2 ⟨rfl, Kp.toks⟩
  · exact tuple_bool h1 h2 ⟨rfl, Kp.toks⟩
  · exact tuple_str h1 h2 ⟨rfl, Kp.toks⟩
  · exact tuple_tuple h1 h2 ⟨rfl, Kp.refl _⟩
  · exact tuple_list h1 h2 ⟨rfl, Kp.toks⟩
end
end Mine
end

section
open PySem PySem.W PyProof.Rows PySem.Calls PyProof
set_option Elab.async false
set_option maxRecDepth 100000
set_option linter.unusedVariables false
namespace Mine
section
variable {B : Bs} {F : Fi} {X : Str → Prop} {n : Nat} {ρ : List (Option Sl)}

noncomputable def SubS (B : Bs) (n : Nat) (x i z : AV) : Prop :=
  ∀ env oa A s0 s vx vi value slice (E : Value → Shared → Prop), Bas B s → Ar B A n s → VR B env oa s0 s vx x → VR B env oa s0 s vi i → subscripted slice false vx vi = operate [vx, vi] (getItem vx vi) →
    wpAny (model B.prog B.w) A (subscriptTail value slice vx vi) (fun v s' => Kp B s s' ∧ VR B env oa s s' v z) E s
theorem EW.sub {value slice pos} {Q : AV → Prop} (h : EW B F X n ρ value fun x => EW B F X n ρ slice fun i => ∃ z, SubS B n x i z ∧ Q z)
    (hs : ∀ o i, subscripted slice false o i = operate [o, i] (getItem o i) := by intros; rfl) : EW B F X n ρ (.Subscript value slice pos) Q :=
  .mk fun env oa A s R a => Subscript_ (h.run R a (Kp.refl _) fun vx s1 rx qx k1 x1 => qx.run (R.kp k1) (a.kp k1) k1 fun vi s2 ri ⟨z, hz, q⟩ k2 x2 =>
    wpAny_mono (hz env oa A s s2 vx vi value slice _ ((R.kp k1).kp k2).base ((a.kp k1).kp k2) (x1.kp k2) (x2.back k1) (hs _ _)) (fun v s3 hz2 => by obtain ⟨k3, x3⟩ := hz2; exact ⟨z, q, (k1.trans k2).trans k3, x3.back (k1.trans k2)⟩) fun _ _ x => x)

theorem SubS.list {m : Md} {l : List D} {k : Int} {d : D} (h0 : 0 ≤ k) (hk : k < 2 ^ 63) (hd : l[k.toNat]? = some d) : SubS B n (.ct m (.lst l)) (.im (.int k)) (.im d) := fun env oa A s0 s vx vi value slice E b a x i hs => by
  obtain ⟨a, vs, rfl, h1, h2⟩ := x.lst
  obtain ⟨t, rfl⟩ := i.int
  obtain ⟨v, hv, hi⟩ := h2.get hd
  exact tail_any h1.typeIs slot_list_getitem.lookup (wpAny_getItem_list h1 h0 hk (by simpa using hv) ⟨Kp.refl _, hi⟩) hs
theorem seqIndex_pos {k : Int} {len : Nat} (h : 0 ≤ k) (h1 : k < len) : seqIndex? k len = some k.toNat := by
  unfold seqIndex?
  simp only [if_neg (Int.not_lt.mpr h)]
  rw [if_pos (by simp; (first | lia | omega))]
theorem SubS.tup {l : List D} {k : Int} {d : D} {j : Nat} (hlo : -(2 ^ 63) ≤ k) (hk : k < 2 ^ 63) (hj : seqIndex? k l.length = some j) (hd : l[j]? = some d) : SubS B n (.im (.tup l)) (.im (.int k)) (.im d) := fun env oa A s0 s vx vi value slice E b a x i hs => by
  obtain ⟨a, vs, rfl, h1, h2⟩ := x.isTup
  obtain ⟨t, rfl⟩ := i.int
  obtain ⟨v, hv, hi⟩ := h2.get hd
  have e : vs.size = l.length := by rw [← Array.length_toList]; exact h2.length
  exact tail_any h1.typeIs slot_tuple_getitem.lookup (PyProof.Rows.getItem_tuple h1 hlo hk (by rw [e]; exact hj) (by simpa using hv) ⟨Kp.refl _, hi⟩) hs
theorem SubS.str {x : Str} {k : Int} {c j : Nat} (hlo : -(2 ^ 63) ≤ k) (hk : k < 2 ^ 63) (hj : seqIndex? k x.length = some j) (hc : x.cps[j]? = some c) : SubS B n (.im (.str x)) (.im (.int k)) (.im (.str ⟨#[c]⟩)) := fun env oa A s0 s vx vi value slice E b a y i hs => by
  obtain ⟨t, rfl⟩ := y.str
  obtain ⟨u, rfl⟩ := i.int
  refine tail_any (typeIs_str s x t) slot_str_getitem.lookup (PyProof.Rows.getItem_str ?_ ?_ ⟨Kp.toks, Im.str _ _⟩) hs
  · simp; (first | lia | omega)
  · rw [hj]; exact hc

structure PW (B : Bs) (F : Fi) (X : Str → Prop) (n : Nat) (ρ : List (Option Sl)) (e : Option Expr) (Q : Option Int → Prop) : Prop where
  go : ∀ env oa A s, Rp B F env oa ρ s → Ar B A n s → wpAny (model B.prog B.w) A (evalPart e env) (fun v s' => ∃ i, Q i ∧ Kp B s s' ∧ IsPart v i) (EP B X s) s
theorem PW.none {Q : Option Int → Prop} (h : Q none) : PW B F X n ρ none Q := .mk fun env oa A s R a => by
  rw [evalPart_none]; exact wpAny_pure ⟨_, h, Kp.refl _, .none⟩
theorem PW.some {e} {Q : Option Int → Prop} (h : EW B F X n ρ e fun r => ∃ i, r = .im (.int i) ∧ Q (some i)) : PW B F X n ρ (some e) Q := .mk fun env oa A s R a => by
  rw [evalPart_some]
  exact wpAny_mono (h.go env oa A s R a) (fun v s' hz3 => by obtain ⟨r, ⟨i, e, q⟩, k, x⟩ := hz3; subst e; obtain ⟨t, rfl⟩ := x.int; exact ⟨_, q, k, .int _ _⟩) fun _ _ x => x
noncomputable def SlcS (B : Bs) (n : Nat) (x : AV) (l u : Option Int) (z : AV) : Prop :=
  ∀ env oa A s0 s vx vl vu value slice (E : Value → Shared → Prop), Bas B s → Ar B A n s → VR B env oa s0 s vx x → IsPart vl l → IsPart vu u →
    (∀ i, subscripted slice false vx i = operate [i, vx] (getItem vx i)) →
    wpAny (model B.prog B.w) A (subscriptTail value slice vx (.ref s.heap.objs.size)) (fun v s' => Kp B s s' ∧ VR B env oa s s' v z) E { s with heap := s.heap.push { cls := .type "slice", data := .fields #[vl, vu, .none] } }
theorem EW.slice {value lo hi p pos} {Q : AV → Prop} (h : EW B F X n ρ value fun x => PW B F X n ρ lo fun l => PW B F X n ρ hi fun u => ∃ z, SlcS B n x l u z ∧ Q z) :
    EW B F X n ρ (.Subscript value (.Slice lo hi none p) pos) Q :=
  .mk fun env oa A s R a => Subscript_ (h.run R a (Kp.refl _) fun vx s1 rx qx k1 x1 => wpAny_Slice
    (wpAny_mono (qx.go env oa A s1 (R.kp k1) (a.kp k1)) (fun vl s2 ⟨l, ql, k2, pl⟩ =>
      wpAny_mono (ql.go env oa A s2 ((R.kp k1).kp k2) ((a.kp k1).kp k2)) (fun vu s3 hz5 => by
        obtain ⟨u, ⟨z, hz, q⟩, k3, pu⟩ := hz5
        rw [evalPart_none]
        refine wpAny_pure ?_
        have k13 := (k1.trans k2).trans k3
        exact wpAny_mono (hz env oa A s s3 vx vl vu value _ _ (R.kp k13).base (a.kp k13) ((x1.kp k2).kp k3) pl pu (fun _ => rfl)) (fun v s4 hz6 => by obtain ⟨k4, x4⟩ := hz6; exact ⟨z, q, k13.trans k4, x4.back k13⟩) fun _ _ x => x)
        fun _ _ x => x.back (k1.trans k2)) fun _ _ x => x.back k1))

theorem Ims.filterMap {h : Heap} {vs : Array Value} {l : List D} (hi : Ims h vs.toList l) : ∀ is : List Nat, Ims h (is.filterMap (vs[·]?)) (is.filterMap (l[·]?))
  | [] => .nil
  | i :: is => by
    simp only [List.filterMap_cons]
    have e : vs.size = l.length := by rw [← Array.length_toList]; exact hi.length
    by_cases hlt : i < l.length
    · obtain ⟨v, hv, hi'⟩ := hi.get (List.getElem?_eq_getElem hlt)
      rw [List.getElem?_eq_getElem hlt, show vs[i]? = some v by simpa using hv]
      exact .cons hi' (hi.filterMap is)
    · rw [List.getElem?_eq_none (Nat.le_of_not_lt hlt), Array.getElem?_eq_none (by (first | lia | omega))]
      exact hi.filterMap is
noncomputable def pick (l : List D) (lo hi : Option Int) : List D :=
  (sliceRange (sliceBounds lo hi none l.length).1 (sliceBounds lo hi none l.length).2.1 (sliceBounds lo hi none l.length).2.2).filterMap (l[·]?)
theorem SlcS.list {m : Md} {l : List D} {lo hi : Option Int} (h : l.length ≤ sizeLine) : SlcS B n (.ct m (.lst l)) lo hi (.ct .fr (.lst (pick l lo hi))) := fun env oa A s0 s vx vl vu value slice E b a x pl pu hs => by
  obtain ⟨a, vs, rfl, h1, h2⟩ := x.lst
  have e : vs.size = l.length := by rw [← Array.length_toList]; exact h2.length
  have h1' := h1.push { cls := .type "slice", data := .fields #[vl, vu, .none] }
  have k1 : Kp B s { s with heap := s.heap.push { cls := .type "slice", data := .fields #[vl, vu, .none] } } := push_kp _
  refine tail_any (s := { s with heap := s.heap.push { cls := .type "slice", data := .fields #[vl, vu, .none] } }) h1'.typeIs slot_list_getitem.lookup (wpAny_getItem_list_slice h1' (Heap.IsSliceOf.new ..) pl pu .none (by simp) ?_ (by rw [e]; exact h)) (hs _)
  refine ⟨k1.trans (push_kp _), _, rfl, ⟨_, _, _, Heap.get?_push_size _ rfl, ⟨rfl, rfl⟩, rfl, ?_⟩, k1.fresh (fresh_size _)⟩
  have g : Grow s.heap ((s.heap.push { cls := .type "slice", data := .fields #[vl, vu, .none] }).push { cls := .type "list", data := .seq (slicePick vs lo hi none) }) := (k1.trans (push_kp (B := B) _ (t := s.toks))).tups
  have := (h2.filterMap (sliceRange (sliceBounds lo hi none vs.size).1 (sliceBounds lo hi none vs.size).2.1 (sliceBounds lo hi none vs.size).2.2)).grow g
  simpa [slicePick, pick, e] using this
theorem SlcS.str {x : Str} {lo hi : Option Int} (h : x.length ≤ sizeLine) : SlcS B n (.im (.str x)) lo hi (.im (.str (Txt.slice x lo hi))) := fun env oa A s0 s vx vl vu value slice E b a y pl pu hs => by
  obtain ⟨t, rfl⟩ := y.str
  have k1 : ∀ tk, Kp B s { s with heap := s.heap.push { cls := .type "slice", data := .fields #[vl, vu, .none] }, toks := tk } := fun tk => push_kp _
  have go : ∀ (l u : Option (Int × Tok)), vl = partValue l → vu = partValue u → wpAny (model B.prog B.w) A (subscriptTail value slice (.str x t) (.ref s.heap.objs.size)) (fun v s' => Kp B s s' ∧ VR B env oa s s' v (.im (.str (Txt.slice x (l.map (·.1)) (u.map (·.1)))))) E { s with heap := s.heap.push { cls := .type "slice", data := .fields #[vl, vu, .none] } } := fun l u el eu => by
    refine tail_any (typeIs_str _ x t) slot_str_getitem.lookup (wpAny_getItem_str_slice (l := l) (u := u) (st := none) ⟨_, Heap.get?_push_size _ rfl, rfl, by rw [el, eu]; rfl⟩ rfl ?_) (hs _)
    exact post_val_or_str ⟨Nat.le_trans (Txt.slice_le x _ _) h, fun t' k => ⟨k1 k, Im.str _ _⟩⟩
  cases pl with
  | none => cases pu with
    | none => exact go none none rfl rfl
    | int j u => exact go none (.some (j, u)) rfl rfl
  | int i ti => cases pu with
    | none => exact go (.some (i, ti)) none rfl rfl
    | int j u => exact go (.some (i, ti)) (.some (j, u)) rfl rfl
end
end Mine
end

section
open PySem PySem.W PyProof.Rows PySem.Calls PyProof
set_option Elab.async false
set_option maxRecDepth 100000
set_option linter.unusedVariables false
namespace Mine

noncomputable def intsFrom (a : Int) : Nat → List D
  | 0 => []
  | k + 1 => .int a :: intsFrom (a + 1) k
noncomputable def signsD (x : Str) : List D := x.cps.toList.map fun c => .str ⟨#[c]⟩

inductive Itr (h : Heap) (it : Addr) : Option Addr → List D → Prop
  | list {l i vs ds} : h.IsListIter it l i → h.IsList l vs → Ims h (vs.toList.drop i) ds → Itr h it (some l) ds
  | tup {t i vs ds} : h.IsTupleIter it t i → h.IsTuple t vs → Ims h (vs.toList.drop i) ds → Itr h it none ds
  | rng {x : Int} {k : Nat} : IsRangeIter h it x k 1 → Itr h it none (intsFrom x k)
  | asc {x : Str} {t i} : h.IsStrIter it "str_ascii_iterator" x t i → Itr h it none ((signsD x).drop i)
  | wid {x : Str} {t i} : h.IsStrIter it "str_iterator" x t i → Itr h it none ((signsD x).drop i)

section
variable {B : Bs} {F : Fi} {X : Str → Prop} {n : Nat} {ρ : List (Option Sl)}

theorem Itr.kp {W} {s s' : Shared} {it : Addr} {dep : Option Addr} {ds : List D} (x : Itr s.heap it dep ds) (k : KpW B W s s') (h1 : ¬ W it) (h2 : ∀ l, dep = some l → ¬ W l) : Itr s'.heap it dep ds := by
  have kk : ∀ o, s.heap.get? it = some o → o.cls ≠ .type "frame" → s'.heap.get? it = some o := fun o e f => k.keep it o e h1 (.inl f)
  cases x with
  | list a b c =>
    obtain ⟨o, ho, hc, hd⟩ := a
    obtain ⟨o2, ho2, hc2, m, hd2⟩ := b
    exact .list ⟨o, kk o ho (by rw [hc]; decide), hc, hd⟩ ⟨o2, k.keep _ o2 ho2 (h2 _ rfl) (.inl (by rw [hc2]; decide)), hc2, m, hd2⟩ (c.grow k.tups)
  | tup a b c =>
    obtain ⟨o, ho, hc, hd⟩ := a
    obtain ⟨o2, ho2, hc2, m, hd2⟩ := b
    exact .tup ⟨o, kk o ho (by rw [hc]; decide), hc, hd⟩ ⟨o2, k.tups _ _ _ _ ho2 hc2 hd2, hc2, m, hd2⟩ (c.grow k.tups)
  | rng a => exact .rng (kk _ a (by show Value.type _ ≠ _; decide))
  | asc a => obtain ⟨o, ho, hc, hd⟩ := a; exact .asc ⟨o, kk o ho (by rw [hc]; decide), hc, hd⟩
  | wid a => obtain ⟨o, ho, hc, hd⟩ := a; exact .wid ⟨o, kk o ho (by rw [hc]; decide), hc, hd⟩
theorem Itr.cls {h : Heap} {it : Addr} {dep : Option Addr} {ds : List D} (x : Itr h it dep ds) : ∃ o T, h.get? it = some o ∧ o.cls = .type T ∧ (∃ vs, o.data = .fields vs) ∧
    (["enumerate", "zip", "dict_itemiterator", "dict_reverseitemiterator", "odict_iterator", "itertools.zip_longest", "itertools.pairwise"].contains T) = false := by
  cases x with
  | list a b c => obtain ⟨o, ho, hc, hd⟩ := a; exact ⟨o, _, ho, hc, ⟨_, hd⟩, by decide⟩
  | tup a b c => obtain ⟨o, ho, hc, hd⟩ := a; exact ⟨o, _, ho, hc, ⟨_, hd⟩, by decide⟩
  | rng a => exact ⟨_, _, a, rfl, ⟨_, rfl⟩, by decide⟩
  | asc a => obtain ⟨o, ho, hc, hd⟩ := a; exact ⟨o, _, ho, hc, ⟨_, hd⟩, by decide⟩
  | wid a => obtain ⟨o, ho, hc, hd⟩ := a; exact ⟨o, _, ho, hc, ⟨_, hd⟩, by decide⟩
theorem Itr.letGo {A : Around} {s : Shared} {it : Addr} {dep ds} {target : Expr} {v : Value} {Q : Unit → Shared → Prop} {E} (x : Itr s.heap it dep ds) (h : Q () s) : wpAny (model B.prog B.w) A (letOwnedTupleGo target (.ref it) v) Q E s := by
  obtain ⟨o, T, ho, hc, ⟨vs, hd⟩, hT⟩ := x.cls
  have go : wpAny (model B.prog B.w) A (do
      let (.ref r, .ref a) := (Value.ref it, v) | return
      let o ← load r
      match o.cls, o.data with
      | .type n, .fields vs =>
        if ["enumerate", "zip", "dict_itemiterator", "dict_reverseitemiterator", "odict_iterator", "itertools.zip_longest", "itertools.pairwise"].contains n && vs[0]? == some (rawInt a) then
          rule "for.unpacks-the-owned-tuple"
          updateField r 0 .none
      | _, _ => pure ()) Q E s := by
    cases v with
    | ref a =>
      refine wpAny_bind (wpAny_load ho ?_)
      rw [hc, hd]
      simp only [hT, Bool.false_and, Bool.false_eq_true, if_false]
      exact wpAny_pure h
    | _ => exact wpAny_pure h
  cases target <;> first | exact go | exact wpAny_pure h

theorem KpW.ext {W} {s0 s : Shared} (k : KpW B W s0 s) {it : Addr} (hb : s0.heap.get? it = none) {h' : Heap} {t : Nat} (x : Heap.ExtBut it s.heap h') : KpW B W s0 { s with heap := h', toks := t } := by
  have ne : ∀ c o, s0.heap.get? c = some o → c ≠ it := fun c o e q => by subst q; rw [hb] at e; cases e
  refine ⟨fun c o e nw hf => x c o (ne c o e) (k.keep c o e nw hf), fun c o e nw => ?_, fun c o vs n e c' d => x c o (ne c o e) (k.tups c o vs n e c' d), fun c o e => ?_, k.gens, k.os⟩
  · obtain ⟨sl, q⟩ := k.data c o e nw; exact ⟨sl, x c _ (ne c o e) q⟩
  · obtain ⟨o', q, r⟩ := k.live c o e; exact ⟨o', x c _ (ne c o e) q, r⟩

theorem growBut {h h' : Heap} {it : Addr} {o : Obj} (ho : h.get? it = some o) (hc : o.cls ≠ .type "tuple") (x : Heap.ExtBut it h h') : Grow h h' := fun a oa vs n e c d =>
  x a oa (fun q => by subst q; rw [ho] at e; cases e; exact hc c) e

theorem Itr.next {W} {A : Around} {s0 s : Shared} {it : Addr} {dep : Option Addr} {d : D} {ds : List D} {E} (x : Itr s.heap it dep (d :: ds)) (hdep : dep ≠ some it) (k : KpW B W s0 s) (h0 : s0.heap.get? it = none) :
    wpAny (model B.prog B.w) A (pyNext (.ref it)) (fun r s' => ∃ v, r = some v ∧ Im s'.heap v d ∧ Itr s'.heap it dep ds ∧ KpW B W s0 s' ∧ ∃ h' t, s' = { s with heap := h', toks := t } ∧ Heap.SameBut it s.heap h') E s := by
  generalize hl : d :: ds = L at x
  cases x with
  | @list l i vs L a b c =>
    obtain ⟨v, hv, hi⟩ := c.get (i := 0) (d := d) (by rw [← hl]; rfl)
    rw [List.getElem?_drop, Nat.add_zero] at hv
    obtain ⟨o, ho, hc, hd⟩ := id a
    refine wpAny_pyNext_list_item a b (by simpa using hv) fun h' a' hs => ?_
    have g := growBut ho (by rw [hc]; decide) hs.extBut
    have ne : l ≠ it := fun q => hdep (by rw [q])
    refine ⟨v, rfl, hi.grow g, .list a' (b.extBut hs.extBut ne) ?_, k.ext h0 hs.extBut, h', s.toks, rfl, hs⟩
    have := (c.drop 1).grow g
    rw [← hl, List.drop_drop] at this
    exact this
  | @tup l i vs L a b c =>
    obtain ⟨v, hv, hi⟩ := c.get (i := 0) (d := d) (by rw [← hl]; rfl)
    rw [List.getElem?_drop, Nat.add_zero] at hv
    obtain ⟨o, ho, hc, hd⟩ := id a
    obtain ⟨o2, ho2, hc2, m, hd2⟩ := id b
    refine wpAny_pyNext_tuple_item a b (by simpa using hv) fun h' a' hs => ?_
    have g := growBut ho (by rw [hc]; decide) hs.extBut
    refine ⟨v, rfl, hi.grow g, .tup a' ⟨o2, g _ _ _ _ ho2 hc2 hd2, hc2, m, hd2⟩ ?_, k.ext h0 hs.extBut, h', s.toks, rfl, hs⟩
    have := (c.drop 1).grow g
    rw [← hl, List.drop_drop] at this
    exact this
  | @rng x m a =>
    cases m with
    | zero => cases hl
    | succ m =>
      cases hl
      refine wpAny_pyNext_range_item a (by (first | lia | omega)) fun h' a' hs => ?_
      exact ⟨_, rfl, .int _ _, .rng (by simpa using a'), k.ext h0 hs.extBut, h', _, rfl, hs⟩
  | @asc x t i a =>
    have hx : x.cps[i]? = some (x.cps.toList.getD i 0) ∧ d = .str ⟨#[x.cps.toList.getD i 0]⟩ ∧ ds = (signsD x).drop (i + 1) := by
      have h1 : ((signsD x).drop i)[0]? = some d := by rw [← hl]; rfl
      have h2 : ((signsD x).drop i).drop 1 = ds := by rw [← hl]; rfl
      rw [List.getElem?_drop, Nat.add_zero, signsD, List.getElem?_map] at h1
      rw [List.drop_drop] at h2
      cases e : x.cps.toList[i]? with
      | none => rw [e] at h1; cases h1
      | some c => rw [e] at h1; cases h1; rw [List.getD_eq_getElem?_getD, e]; exact ⟨by rw [← Array.getElem?_toList]; exact e, rfl, h2.symm⟩
    refine wpAny_pyNext_ascii_item a hx.1 fun h' a' hs => ?_
    rw [hx.2.1, hx.2.2]
    exact ⟨_, rfl, .str _ _, .asc a', k.ext h0 hs.extBut, h', _, rfl, hs⟩
  | @wid x t i a =>
    have hx : x.cps[i]? = some (x.cps.toList.getD i 0) ∧ d = .str ⟨#[x.cps.toList.getD i 0]⟩ ∧ ds = (signsD x).drop (i + 1) := by
      have h1 : ((signsD x).drop i)[0]? = some d := by rw [← hl]; rfl
      have h2 : ((signsD x).drop i).drop 1 = ds := by rw [← hl]; rfl
      rw [List.getElem?_drop, Nat.add_zero, signsD, List.getElem?_map] at h1
      rw [List.drop_drop] at h2
      cases e : x.cps.toList[i]? with
      | none => rw [e] at h1; cases h1
      | some c => rw [e] at h1; cases h1; rw [List.getD_eq_getElem?_getD, e]; exact ⟨by rw [← Array.getElem?_toList]; exact e, rfl, h2.symm⟩
    refine wpAny_pyNext_wide_item a hx.1 fun h' a' hs => ?_
    rw [hx.2.1, hx.2.2]
    exact ⟨_, rfl, .str _ _, .wid a', k.ext h0 hs.extBut, h', _, rfl, hs⟩
theorem Itr.fin {W} {A : Around} {s0 s : Shared} {it : Addr} {dep : Option Addr} {E} (x : Itr s.heap it dep []) (hh : A.handled = none) (k : KpW B W s0 s) (h0 : s0.heap.get? it = none) :
    wpAny (model B.prog B.w) A (pyNext (.ref it)) (fun r s' => r = none ∧ KpW B W s0 s' ∧ ∃ h', s' = { s with heap := h' } ∧ Heap.ExtBut it s.heap h' ∧ Grow s.heap h') E s := by
  generalize hl : ([] : List D) = L at x
  have nil : ∀ {vs : Array Value} {i : Nat}, Ims s.heap (vs.toList.drop i) [] → vs[i]? = none := fun {vs i} c => by
    have := c.length
    simp at this
    exact Array.getElem?_eq_none (by (first | lia | omega))
  have snil : ∀ {x : Str} {i : Nat}, [] = (signsD x).drop i → x.cps[i]? = none := fun {x i} e => by
    have := congrArg List.length e
    simp [signsD] at this
    exact Array.getElem?_eq_none (by (first | lia | omega))
  have done : ∀ h', Heap.ExtBut it s.heap h' → (none : Option Value) = none ∧ KpW B W s0 { s with heap := h' } ∧ ∃ h'', ({ s with heap := h' } : Shared) = { s with heap := h'' } ∧ Heap.ExtBut it s.heap h'' ∧ Grow s.heap h'' := by
    intro h' hs
    have hc : ∃ o, s.heap.get? it = some o ∧ o.cls ≠ .type "tuple" := by
      cases x with
      | list a b c => obtain ⟨o, ho, hc, hd⟩ := a; exact ⟨o, ho, by rw [hc]; decide⟩
      | tup a b c => obtain ⟨o, ho, hc, hd⟩ := a; exact ⟨o, ho, by rw [hc]; decide⟩
      | rng a => exact ⟨_, a, by show Value.type _ ≠ _; decide⟩
      | asc a => obtain ⟨o, ho, hc, hd⟩ := a; exact ⟨o, ho, by rw [hc]; decide⟩
      | wid a => obtain ⟨o, ho, hc, hd⟩ := a; exact ⟨o, ho, by rw [hc]; decide⟩
    obtain ⟨o, ho, hc⟩ := hc
    exact ⟨rfl, k.ext h0 hs (t := s.toks), h', rfl, hs, growBut ho hc hs⟩
  cases x with
  | list a b c => exact wpAny_pyNext_list_end hh a b (nil (hl ▸ c)) done
  | tup a b c => exact wpAny_pyNext_tuple_end hh a b (nil (hl ▸ c)) done
  | @rng x m a =>
    cases m with
    | zero => exact wpAny_pyNext_range_end hh a (by simp) done
    | succ m => cases hl
  | asc a => exact wpAny_pyNext_ascii_end hh a (snil hl) done
  | wid a => exact wpAny_pyNext_wide_end hh a (snil hl) done

noncomputable def IterS (B : Bs) (n : Nat) (r : AV) (ds : List D) : Prop :=
  ∀ env oa A s0 s v (E : Value → Shared → Prop), Bas B s → Ar B A n s → VR B env oa s0 s v r → (∀ a, s0.heap.get? a = none → ¬ FW env oa a) →
    wpAny (model B.prog B.w) A (pyIter v) (fun it s' => ∃ a dep, it = .ref a ∧ Itr s'.heap a dep ds ∧ s.heap.get? a = none ∧ dep ≠ some a ∧ (∀ l, dep = some l → ¬ FW env oa l ∧ ∃ o, s.heap.get? l = some o) ∧ Kp B s s') E s
theorem IterS.list {m : Md} {l : List D} (hm : ∀ i, m ≠ .ow i) : IterS B n (.ct m (.lst l)) l := fun env oa A s0 s v E b a x hz => by
  obtain ⟨a, vs, rfl, h1, h2⟩ := x.lst
  have hf : ¬ FW env oa a := by
    cases m with
    | fz => obtain ⟨a', e, _, h⟩ := x; cases e; exact h
    | fr => obtain ⟨a', e, _, h⟩ := x; cases e; exact hz a h
    | ow i => exact (hm i rfl).elim
  obtain ⟨o, ho, hc, md⟩ := id h1
  refine wpAny_pyIter_list h1 ⟨s.heap.objs.size, some a, rfl, .list ⟨_, Heap.get?_push_size _ rfl, rfl, rfl⟩ (h1.push _) (by simpa using h2.grow (push_kp (B := B) (s := s) _ (t := s.toks)).tups), fresh_size s, ?_, ?_, push_kp _⟩
  · intro q; cases q; rw [fresh_size s] at ho; cases ho
  · intro l' q; cases q; exact ⟨hf, o, ho⟩
theorem IterS.tup {l : List D} : IterS B n (.im (.tup l)) l := fun env oa A s0 s v E b a x hz => by
  obtain ⟨a, vs, rfl, h1, h2⟩ := x.isTup
  obtain ⟨o, ho, hc, md, hd⟩ := id h1
  refine wpAny_pyIter_tuple h1 ⟨s.heap.objs.size, none, rfl, .tup ⟨_, Heap.get?_push_size _ rfl, rfl, rfl⟩ ⟨o, Heap.get?_push_of_some _ ho, hc, md, hd⟩ (by simpa using h2.grow (push_kp (B := B) (s := s) _ (t := s.toks)).tups), fresh_size s, by simp, by simp, push_kp _⟩
theorem IterS.str {x : Str} : IterS B n (.im (.str x)) (signsD x) := fun env oa A s0 s v E b a y hz => by
  obtain ⟨t, rfl⟩ := y.str
  cases ha : x.cps.all (· < 128) with
  | true => exact wpAny_pyIter_ascii ha ⟨s.heap.objs.size, none, rfl, .asc (i := 0) (x := x) (t := t) ⟨_, Heap.get?_push_size _ rfl, rfl, rfl⟩, fresh_size s, by simp, by simp, push_kp _⟩
  | false => exact wpAny_pyIter_wide ha ⟨s.heap.objs.size, none, rfl, .wid (i := 0) (x := x) (t := t) ⟨_, Heap.get?_push_size _ rfl, rfl, rfl⟩, fresh_size s, by simp, by simp, push_kp _⟩
end
end Mine
end

section
open PySem PySem.W PyProof.Rows PySem.Calls PyProof
set_option Elab.async false
set_option maxRecDepth 100000
set_option linter.unusedVariables false
namespace Mine
section
variable {B : Bs} {F : Fi} {X : Str → Prop} {n : Nat} {ρ : List (Option Sl)}

theorem BuiS.range1 (k : Int) : BuiS B n (.type "range") [.im (.int k)] (.ct .fr (.rng 0 k)) := .one fun env oa A s0 s v E b a x => by
  obtain ⟨t, rfl⟩ := x.int
  exact call_range_1 ⟨push_kp _, _, rfl, ⟨_, _, _, IsRange.new ..⟩, fresh_size s⟩
theorem BuiS.range2 (j k : Int) : BuiS B n (.type "range") [.im (.int j), .im (.int k)] (.ct .fr (.rng j k)) := .two fun env oa A s0 s v u E b a x y => by
  obtain ⟨t, rfl⟩ := x.int
  obtain ⟨t', rfl⟩ := y.int
  exact call_range_2 ⟨push_kp _, _, rfl, ⟨_, _, _, IsRange.new ..⟩, fresh_size s⟩
theorem IterS.rng {m : Md} {j k : Int} (h1 : -(2 ^ 62) ≤ j) (h2 : j < 2 ^ 62) (h3 : -(2 ^ 62) ≤ k) (h4 : k < 2 ^ 62) : IterS B n (.ct m (.rng j k)) (intsFrom j (k - j).toNat) := fun env oa A s0 s v E b a x hz => by
  obtain ⟨a, rfl, t, u, w, hr⟩ := x.cont
  refine wpAny_pyIter_range hr (small_one h1 h2 h3 h4) ⟨s.heap.objs.size, none, rfl, .rng ?_, fresh_size s, by simp, by simp, push_kp _⟩
  rw [rangeSize_nat]
  exact Heap.get?_push_size _ rfl

structure AsW (B : Bs) (F : Fi) (n : Nat) (ρ : List (Option Sl)) (target : Expr) (d : D) (Q : List (Option Sl) → Prop) : Prop where
  go : ∀ env oa A s v (E : Value → Shared → Prop), Rp B F env oa ρ s → Ar B A n s → Im s.heap v d →
    wpAny (model B.prog B.w) A (assign target env v) (fun _ s' => ∃ ρ' oa', Q ρ' ∧ Rp B F env oa' ρ' s' ∧ KpW B (Priv env) s s' ∧ OwnFrom s oa oa' ∧ ∀ K, F.vars.length ≤ K → oa' K = oa K) E s
theorem oaSet_far {oa : Nat → Option Addr} {i : Nat} {hp : Heap} {v : Value} {d : D} {K : Nat} (h : K ≠ i) : oaSet oa i hp v (.im d) K = oa K := by simp [oaSet, h]
theorem Fi.lt (F : Fi) {i : Nat} {p : Str × Kd} (h : F.vars[i]? = some p) : i < F.vars.length := (List.getElem?_eq_some_iff.mp h).1
theorem AsW.name {x pos d} {Q : List (Option Sl) → Prop} (i : Nat) {k : Kd} (hx : F.vars[i]? = some (x, k)) (hkd : k ≠ .fre) (hi : i < F.own) (h : Q (ρ.set i (some (.im d)))) : AsW B F n ρ (.Name x pos) d Q :=
  .mk fun env oa A s v E R a hv => wpAny_assign_Name (wpAny_mono (storeVar R (Kp.refl _) (r := .im d) hv hx rfl hkd hi) (fun _ s' hz1 => by obtain ⟨h1, h2, h3, _⟩ := hz1; exact ⟨_, _, h, h1, h2, h3, fun K hK => oaSet_far (by have := F.lt hx; (clear hi; (first | lia | omega)))⟩) fun _ _ x => x)
theorem assignEach_name {x p es env} : assignEach (.Name x p :: es) env = (false, assign (.Name x p) env) :: assignEach es env := rfl
theorem AsW.two {x y px py k pos d e} {Q : List (Option Sl) → Prop} (i j : Nat) {kx ky : Kd} (hx : F.vars[i]? = some (x, kx)) (hy : F.vars[j]? = some (y, ky)) (hkx : kx ≠ .fre) (hky : ky ≠ .fre) (hi : i < F.own) (hj : j < F.own)
    (h : Q ((ρ.set i (some (.im d))).set j (some (.im e)))) (hq : B.quiet = true := by assumption) : AsW B F n ρ (.Tuple [.Name x px, .Name y py] k pos) (.tup [d, e]) Q := by
  refine .mk ?_
  intro env oa A s v E R a hv
  obtain ⟨b, o, vs, m, rfl, h1, h2, h3, h4⟩ : ∃ a o vs m, v = .ref a ∧ s.heap.get? a = some o ∧ o.cls = .type "tuple" ∧ o.data = .seq vs m ∧ Ims s.heap vs.toList [d, e] := by
    cases hv with | tup q1 q2 q3 q4 => exact ⟨_, _, _, _, rfl, q1, q2, q3, q4⟩
  have hl := h4.length
  obtain ⟨v1, v2, hvs⟩ : ∃ v1 v2, vs.toList = [v1, v2] := by
    exact len2 hl
  rw [hvs] at h4
  cases h4 with | cons m1 r1 => cases r1 with | cons m2 r2 =>
  have he : assignEach [.Name x px, .Name y py] env = [(false, assign (.Name x px) env), (false, assign (.Name y py) env)] := by rw [assignEach_name, assignEach_name]; rfl
  refine wpAny_assign_Tuple (a.handled hq) ⟨o, h1, h2, m, h3⟩ (by rw [he, ← Array.length_toList, hvs]; rfl) (by rw [he]; rfl) fun h' hs => ?_
  rw [he, hvs]
  have k0 : Kp B s { s with heap := h' } := by
    have hne : ∀ c ob, s.heap.get? c = some ob → c ≠ s.heap.objs.size := fun c ob q => Nat.ne_of_lt (Heap.lt_size q)
    exact Kp.of (t := s.toks) fun c ob q => hs c ob (hne c ob q) q
  show wpAny _ _ (do holding [v2] (assign (.Name x px) env v1); assignInOrder [assign (.Name y py) env] [v2]) _ _ _
  refine wpAny_bind (wpAny_holding (wpAny_assign_Name (wpAny_mono (storeVar R k0 (r := .im d) (m1.grow k0.tups) hx rfl hkx hi) (fun _ s1 hz2 => ?_) fun _ _ x => x)))
  obtain ⟨R1, k1', o1, _⟩ := hz2
  have k1 : KpW B (Priv env) s s1 := (Kp.toW k0).trans k1' fun _ x => .inl x
  show wpAny _ _ (do holding [] (assign (.Name y py) env v2); assignInOrder [] []) _ _ _
  refine wpAny_bind (wpAny_holding (wpAny_assign_Name (wpAny_mono (storeVar R1 (Kp.refl _) (r := .im e) (m2.grow k1.tups) hy rfl hky hj) (fun _ s2 hz3 => ?_) fun _ _ x => x)))
  obtain ⟨R2, k2, o2, _⟩ := hz3
  exact wpAny_pure ⟨_, _, h, R2, k1.trans k2 (fun _ x => .inl x), o1.trans k1 o2, fun K hK => (oaSet_far (by have := F.lt hy; (clear hl hj hi; (first | lia | omega)))).trans (oaSet_far (by have := F.lt hx; (clear hl hj hi; (first | lia | omega))))⟩

theorem notFW {env : Env} {oa oa' : Nat → Option Addr} {s : Shared} {a : Addr} (h : ¬ FW env oa a) (o : OwnFrom s oa oa') (hl : ∃ ob, s.heap.get? a = some ob) : ¬ FW env oa' a := by
  intro q
  rcases FW.from o a q with y | y
  · exact h y
  · obtain ⟨ob, hb⟩ := hl; rw [y] at hb; cases hb


noncomputable def ItCls (o : Obj) : Prop := (∃ vs, o.data = .fields vs) ∧ ∃ T, o.cls = .type T ∧ T ≠ "range" ∧ T ≠ "tuple" ∧ T ≠ "frame"
theorem Itr.itCls {h : Heap} {it : Addr} {dep ds} (x : Itr h it dep ds) : ∃ o, h.get? it = some o ∧ ItCls o := by
  cases x with
  | list a b c => obtain ⟨o, ho, hc, hd⟩ := a; exact ⟨o, ho, ⟨_, hd⟩, _, hc, by decide, by decide, by decide⟩
  | tup a b c => obtain ⟨o, ho, hc, hd⟩ := a; exact ⟨o, ho, ⟨_, hd⟩, _, hc, by decide, by decide, by decide⟩
  | rng a => exact ⟨_, a, ⟨_, rfl⟩, _, rfl, by decide, by decide, by decide⟩
  | asc a => obtain ⟨o, ho, hc, hd⟩ := a; exact ⟨o, ho, ⟨_, hd⟩, _, hc, by decide, by decide, by decide⟩
  | wid a => obtain ⟨o, ho, hc, hd⟩ := a; exact ⟨o, ho, ⟨_, hd⟩, _, hc, by decide, by decide, by decide⟩
theorem ContAt.ne {h : Heap} {a it : Addr} {c : Cont} {o : Obj} (x : ContAt B h a c) (ho : h.get? it = some o) (hc : ItCls o) : a ≠ it := by
  intro q; subst q
  obtain ⟨⟨vs, hd⟩, T, hT, h1, h2, h3⟩ := hc
  cases c with
  | lst l => obtain ⟨o', vs', n, ho', hc', hd', _⟩ := x; rw [ho] at ho'; cases ho'; rw [hd] at hd'; cases hd'
  | dct l => obtain ⟨_, kvs, ⟨o', es, ep, ho', hc', hd', _⟩, _⟩ := x; rw [ho] at ho'; cases ho'; rw [hd] at hd'; cases hd'
  | rng j k => obtain ⟨t, u, v, ho'⟩ := x; rw [IsRange, ho] at ho'; cases ho'; cases hT; exact h1 rfl
  | exc c => obtain ⟨o', C, vs', ho', hm', hc', hd'⟩ := x; rw [ho] at ho'; cases ho'; rw [hT] at hc'; cases hc'
  | pair d l => obtain ⟨o', vs', n, ho', hc', hd', _⟩ := x; rw [ho] at ho'; cases ho'; rw [hd] at hd'; cases hd'
theorem Rp.ext {env oa} {s : Shared} {it : Addr} {o : Obj} {h' : Heap} {t : Nat} (R : Rp B F env oa ρ s) (ho : s.heap.get? it = some o) (hc : ItCls o) (hb : B.hB.get? it = none) (hf : ¬ FW env oa it) (x : Heap.ExtBut it s.heap h') (g : Grow s.heap h') :
    Rp B F env oa ρ { s with heap := h', toks := t } := by
  have hL : env.locals ≠ it := fun q => hf (.inl (.inl q.symm))
  have hC : ∀ y c, (y, c) ∈ env.cells → c ≠ it := fun y c hm q => by
    obtain ⟨v, oc, h1, h2⟩ := R.cellsLive y c hm
    obtain ⟨⟨vs, hd⟩, _⟩ := hc
    subst q; rw [ho] at h1; cases h1; rw [hd] at h2; cases h2
  have cell : ∀ {y c v}, env.cells.lookup y = some c → s.heap.IsCell c v → h'.IsCell c v := fun {y c v} hl hz4 => by obtain ⟨oc, h1, h2⟩ := hz4; exact ⟨oc, x c oc (hC y c (mem_of_lookup hl)) h1, h2⟩
  have ns : ∀ {m}, s.heap.Ns env.locals m → h'.Ns env.locals m := fun hz5 => by obtain ⟨oL, es, ep, h1, r⟩ := hz5; exact ⟨oL, es, ep, x _ _ hL h1, r⟩
  have var : ∀ {y k v}, VarAt env s.heap y k v → VarAt env h' y k v := fun {y k v} hv => by
    cases k with
    | loc => (obtain ⟨m, h1, h2⟩ := hv; exact ⟨m, ns h1, h2⟩)
    | cel => (obtain ⟨c, h1, h2⟩ := hv; exact ⟨c, h1, cell h1 h2⟩)
    | fre => (obtain ⟨c, h1, h2⟩ := hv; exact ⟨c, h1, cell h1 h2⟩)
  have cont : ∀ {a c}, ContAt B s.heap a c → ContAt B h' a c := fun {a c} y => y.of_same (fun ob e _ => x a ob (y.ne ho hc) e) g
  refine ⟨fun b ob e => x b ob (fun q => by subst q; rw [hb] at e; cases e) (R.base b ob e), R.scope, R.globals, R.builtins, ?_, ?_, R.apart, R.locCell, ?_, R.privNew, ?_, R.oinj, ?_⟩
  · (obtain ⟨m, h⟩ := R.ns; exact ⟨m, ns h⟩)
  · intro i y k h1 h2
    obtain ⟨c, v, h3, h4, h5⟩ := R.cells i y k h1 h2
    exact ⟨c, v, h3, cell h3 h4, h5⟩
  · intro y c hm
    obtain ⟨v, ob, h1, h2⟩ := R.cellsLive y c hm
    exact ⟨v, ob, x c ob (hC y c hm) h1, h2⟩
  · intro i y k sl h1 h2
    have z := R.slots i y k sl h1 h2
    cases sl with
    | im d => (obtain ⟨v, h3, h4⟩ := z; exact ⟨v, var h3, h4.grow g⟩)
    | fz c => (obtain ⟨a, h3, h4, h5⟩ := z; exact ⟨a, h3.map (fun _ => var) g, cont h4, h5⟩)
    | own c => (obtain ⟨a, h3, h4, h5⟩ := z; exact ⟨a, h3.map (fun _ => var) g, cont h4, h5⟩)
  · intro i a h
    obtain ⟨h1, h2, ob, h3⟩ := R.opriv i a h
    exact ⟨h1, h2, ob, x a ob (fun q => hf (.inr ⟨i, q ▸ h⟩)) h3⟩
theorem Ar.ext {A : Around} {s : Shared} {it : Addr} {o : Obj} {h' : Heap} {t : Nat} (a : Ar B A n s) (ho : s.heap.get? it = some o) (hc : ItCls o) (x : Heap.ExtBut it s.heap h') : Ar B A n { s with heap := h', toks := t } := by
  obtain ⟨l, f1, f2, f3⟩ := a.frames
  obtain ⟨⟨vs, hd⟩, T, hT, _, _, h3⟩ := hc
  refine ⟨a.depth, a.units, a.handled, l, f1, f2.of_keeps fun b ob e hnf => ⟨ob, x b ob (fun q => by subst q; rw [ho] at e; cases e; exact hnf _ hd) e, rfl⟩, fun L hL => ?_⟩
  obtain ⟨oL, es, ep, q1, q2, q3⟩ := f3 L hL
  exact ⟨oL, es, ep, x L oL (fun q => by subst q; rw [ho] at q1; cases q1; rw [hd] at q3; cases q3) q1, q2, q3⟩

theorem Ar.epw {A : Around} {W : Addr → Prop} {s s' : Shared} {e : Value} (a : Ar B A n s) (x : EPW B W X s e s') : Ar B A n s' :=
  by obtain ⟨_, _, _, _, _, _, k, _⟩ := x; exact a.kp k
theorem notedFly {A : Around} {env : Env} {W : Addr → Prop} {s0 s : Shared} {e : Value} (hd : Hd A env) (a : Ar B A n s) (x : EPW B W X s0 e s) :
    notedBy (model B.prog B.w) A env (fun e s' => cameBackBy (model B.prog B.w) A env (EPW B W X s0) e s') e s := by
  obtain ⟨c, cv, ad, h1, h2, rfl, h4, h5⟩ := x
  obtain ⟨⟨l, hl⟩, hf⟩ := hd
  have fr : Fr1 B A env s := by
    obtain ⟨l', f1, f2, f3⟩ := a.frames
    rw [hl] at f1; cases f1
    exact ⟨l, hl, f2, f3⟩
  refine wpAny_mono (noteFly hf fr h4 h5) (fun _ s1 hz6 => ?_) fun _ _ x => x
  obtain ⟨k1, y⟩ := hz6
  show wpAny _ _ _ _ _ _
  have y' := y
  obtain ⟨g0, o, vs, ho, hc, hdt, hsz, T, oT, ts, q1, q⟩ := y
  refine wpAny_bind (wpAny_field ho hdt q1 ?_)
  rw [if_neg (show ¬ (Value.ref T == Value.none) = true from by simp)]
  exact wpAny_mono (flightFly k1 y') (fun _ s2 hz7 => by obtain ⟨k2, y2⟩ := hz7; exact ⟨c, cv, ad, h1, h2, rfl, k2, y2.fly⟩) fun _ _ x => x

noncomputable def ForInv (B : Bs) (F : Fi) (n : Nat) (env : Env) (oa : Nat → Option Addr) (A : Around) (s : Shared) (I : List D → List (Option Sl) → Prop) (it : Addr) (dep : Option Addr) (m : Nat) (t : Shared) : Prop :=
  ∃ ds ρ' oa', ds.length = m ∧ I ds ρ' ∧ Rp B F env oa' ρ' t ∧ Ar B A n t ∧ KpW B (FW env oa) s t ∧ OwnFrom s oa oa' ∧ Itr t.heap it dep ds ∧ ¬ FW env oa' it ∧ (∀ l, dep = some l → ¬ FW env oa' l)
theorem SW.for_ {target iter : Expr} {body orelse : List Stmt} {pos : Pos} {Q : Fl → List (Option Sl) → Prop}
    (h : EW B F X n ρ iter fun r => ∃ ds, IterS B n r ds ∧ ∃ I : List D → List (Option Sl) → Prop, I ds ρ ∧
      (∀ d rest ρ', I (d :: rest) ρ' → AsW B F n ρ' target d fun ρ2 => SWs B F X n ρ2 body fun fl ρ3 => match fl with | .next => I rest ρ3 | .cont => I rest ρ3 | .brk => Q .next ρ3 | .ret r => Q (.ret r) ρ3) ∧
      (∀ ρ', I [] ρ' → SWs B F X n ρ' orelse Q))
    (hs : ∀ env x, foldedSetIterable iter env x = pure x := by intros; rfl) (hq : B.quiet = true := by assumption) : SW B F X n ρ (.For target iter body orelse pos) Q := by
  refine .mk ?_
  intro env oa A s hd R a
  refine wpAny_For (wpAny_mono (h.go env oa A s R a) (fun v s1 hz8 => ?_) fun _ _ x => x.toW) (hs env)
  obtain ⟨r, ⟨ds, hi, I, hI, hturn, hend⟩, k1, x1⟩ := hz8
  refine wpAny_mono (hi env oa A s s1 v _ (R.kp k1).base (a.kp k1) x1 fun b hb => (R.new hb).1) (fun itv s2 hz9 => ?_) fun _ _ x => x
  obtain ⟨it, dep, e, hit, hn, hne, hdep, k2⟩ := hz9
  subst e
  have k12 := k1.trans k2
  have hn0 : s.heap.get? it = none := k1.fresh hn
  -- the turns
  refine codeAny_loop' rfl (ForInv B F n env oa A s I it dep)
    (fun m t ht => ?_) ds.length ⟨ds, ρ, oa, rfl, hI, R.kp k12, a.kp k12, k12.toW, OwnFrom.refl _ _, hit, (R.new hn0).1, fun l hl => (hdep l hl).1⟩
  obtain ⟨ds', ρ', oa', rfl, hI', R', a', kt, ot, hit', hf1, hf2⟩ := ht
  show wpAny _ _ ((forTurn target (.ref it) body orelse env).onRaise (fun x => do noteFrame x env; theTreesLotGoes x)) _ _ t
  refine wpAny_noted ?_
  unfold forTurn
  have hb : B.hB.get? it = none := (R.new hn0).2
  have under : A.under (.forLoop target (.ref it) body orelse env) = A := Around.under_of_weight rfl
  obtain ⟨oi, hoi, hci⟩ := hit'.itCls
  cases ds' with
  | nil =>
    refine wpAny_bind (wpAny_standAt (wpAny_bind (wpAny_onRaise (wpAny_mono (hit'.fin (a'.handled hq) kt hn0 (E := fun _ _ => False)) (fun r t1 hz10 => ?_) fun _ _ x => x.elim))))
    obtain ⟨e, kt1, h', e', hx, hg⟩ := hz10
    subst e; subst e'
    refine wpAny_pure (.inr ⟨rfl, codeAny_block ?_⟩)
    have R1 := R'.ext hoi hci hb hf1 hx hg (t := t.toks)
    have a1 := a'.ext hoi hci hx (t := t.toks)
    exact wpAny_mono ((hend ρ' hI').run hd R1 a1 kt1 ot) (fun f s3 x => x) fun e s3 x => notedFly hd (a.epw x) x
  | cons d ds' =>
    refine wpAny_bind (wpAny_standAt (wpAny_bind (wpAny_onRaise (wpAny_mono (hit'.next hne kt hn0 (E := fun _ _ => False)) (fun r t1 hz11 => ?_) fun _ _ x => x.elim))))
    obtain ⟨v, e, hv, hit1, kt1, h', tk, e', hx⟩ := hz11
    subst e; subst e'
    have hg := growBut hoi (by obtain ⟨_, T, hT, _, h2, _⟩ := hci; rw [hT]; intro q; cases q; exact h2 rfl) hx.extBut
    have R1 := R'.ext hoi hci hb hf1 hx.extBut hg (t := tk)
    have a1 := a'.ext hoi hci hx.extBut (t := tk)
    refine wpAny_bind (hit1.letGo ?_)
    refine wpAny_bind (wpAny_mono ((hturn d ds' ρ' hI').go env oa' A _ v _ R1 a1 hv) (fun _ t2 hz12 => ?_) fun _ _ x => x)
    obtain ⟨ρ2, oa2, q2, R2, kp2, o2, _⟩ := hz12
    have k2' : KpW B (FW env oa') _ t2 := kp2.mono fun _ x => .inl x
    have lit : ∃ o, h'.get? it = some o := by obtain ⟨o, ho, _⟩ := hit1.itCls; exact ⟨o, ho⟩
    have hf12 := notFW hf1 o2 lit
    have kt2 := kt1.trans k2' (FW.from ot)
    have ot2 := ot.trans kt1 o2
    have hdl : ∀ l, dep = some l → ∃ o, h'.get? l = some o := fun l hl => by
      subst hl
      cases hit1 with | list a b c => (obtain ⟨o, ho, _⟩ := b; exact ⟨o, ho⟩)
    have hf22 : ∀ l, dep = some l → ¬ FW env oa2 l := fun l hl => notFW (hf2 l hl) o2 (hdl l hl)
    have hit2 := hit1.kp k2' hf1 hf2
    refine wpAny_bind (wpAny_mono (q2.go env oa2 A t2 hd R2 (a1.kp k2')) (fun f t3 x => ?_) fun e t3 x => notedFly hd (a.epw (x.back kt2 ot2)) (x.back kt2 ot2))
    obtain ⟨fl, ρ3, oa3, q3, r3, R3, k3, o3⟩ := x
    have kt3 := kt2.trans k3 (FW.from ot2)
    have ot3 := ot2.trans kt2 o3
    have lit2 : ∃ o, t2.heap.get? it = some o := by obtain ⟨o, ho, _⟩ := hit2.itCls; exact ⟨o, ho⟩
    have hdl2 : ∀ l, dep = some l → ∃ o, t2.heap.get? l = some o := fun l hl => by
      subst hl
      cases hit2 with | list a b c => (obtain ⟨o, ho, _⟩ := b; exact ⟨o, ho⟩)
    have again : I ds' ρ3 → ∃ m, m < (d :: ds').length ∧ ForInv B F n env oa A s I it dep m t3 := fun hI3 =>
      ⟨ds'.length, by simp, ds', ρ3, oa3, rfl, hI3, R3, (a1.kp k2').kp k3, kt3, ot3, hit2.kp k3 hf12 hf22, notFW hf12 o3 lit2, fun l hl => notFW (hf22 l hl) o3 (hdl2 l hl)⟩
    cases f with
    | next => cases fl with
      | next => exact wpAny_pure (.inl ⟨rfl, again q3⟩)
      | _ => exact r3.elim
    | cont => cases fl with
      | cont => exact wpAny_pure (.inl ⟨rfl, again q3⟩)
      | _ => exact r3.elim
    | brk => cases fl with
      | brk => exact wpAny_pure ⟨.next, ρ3, oa3, q3, trivial, R3, kt3, ot3⟩
      | _ => exact r3.elim
    | ret v => cases fl with
      | ret r => exact wpAny_pure ⟨.ret r, ρ3, oa3, q3, FlR.back (f := .ret v) (fl := .ret r) kt2 r3, R3, kt3, ot3⟩
      | _ => exact r3.elim
end
end Mine
end

section
open PySem PySem.W PyProof.Rows PySem.Calls PyProof
set_option Elab.async false
set_option maxRecDepth 100000
set_option linter.unusedVariables false
namespace Mine

theorem closureFor_lookup {scope : Scope} {env : Env} (h : ∀ x ∈ scope.names, x.2 = .free → ∃ c, env.cells.lookup x.1 = some c) :
    ∃ cl, closureFor scope env = pure cl ∧ (∀ p ∈ cl, env.cells.lookup p.1 = some p.2 ∧ (p.1, NameKind.free) ∈ scope.names) ∧ ∀ x ∈ scope.names, x.2 = .free → (cl.lookup x.1).isSome = true := by
  unfold closureFor
  have go : ∀ (l : List (Str × NameKind)) (acc : List (Str × Addr)), (∀ x ∈ l, x ∈ scope.names ∧ (x.2 = .free → ∃ c, env.cells.lookup x.1 = some c)) → (∀ p ∈ acc, env.cells.lookup p.1 = some p.2 ∧ (p.1, NameKind.free) ∈ scope.names) →
      ∃ cl, (forIn l acc fun (x : Str × NameKind) (r : List (Str × Addr)) => (if (x.2 == .free) = true then (do let c ← cellOf env x.1; pure (.yield ((x.1, c) :: r))) else pure (.yield r) : Sem (ForInStep (List (Str × Addr))))) = pure cl ∧
        (∀ p ∈ cl, env.cells.lookup p.1 = some p.2 ∧ (p.1, NameKind.free) ∈ scope.names) ∧ (∀ x ∈ l, x.2 = .free → (cl.lookup x.1).isSome = true) ∧ ∀ y, (acc.lookup y).isSome = true → (cl.lookup y).isSome = true := by
    intro l
    induction l with
    | nil => intro acc _ ha; exact ⟨acc, rfl, ha, fun x hx => (nomatch hx), fun y hy => hy⟩
    | cons p r ih =>
      intro acc hl ha
      obtain ⟨x, k⟩ := p
      rw [List.forIn_cons]
      by_cases hk : (k == .free) = true
      · have hk' : k = .free := by simpa using hk
        obtain ⟨c, hc⟩ := (hl (x, k) List.mem_cons_self).2 hk'
        have hc' : env.cells.lookup x = some c := hc
        obtain ⟨cl, h1, h2, h3, h4⟩ := ih ((x, c) :: acc) (fun y hy => hl y (List.mem_cons_of_mem _ hy)) (fun p hp => by
          rcases List.mem_cons.mp hp with rfl | hp
          · exact ⟨hc', hk' ▸ (hl (x, k) List.mem_cons_self).1⟩
          · exact ha p hp)
        refine ⟨cl, ?_, h2, fun y hy hyf => ?_, fun y hy => h4 y ?_⟩
        · simp only [if_pos hk]
          rw [show cellOf env x = pure c from by unfold cellOf; rw [hc']]
          exact h1
        · rcases List.mem_cons.mp hy with rfl | hy
          · exact h4 _ (by simp)
          · exact h3 y hy hyf
        · rw [List.lookup_cons]; split
          · rfl
          · exact hy
      · obtain ⟨cl, h1, h2, h3, h4⟩ := ih acc (fun y hy => hl y (List.mem_cons_of_mem _ hy)) ha
        refine ⟨cl, ?_, h2, fun y hy hyf => ?_, h4⟩
        · simp only [if_neg hk]; exact h1
        · rcases List.mem_cons.mp hy with rfl | hy
          · exact absurd (by simpa using hyf) hk
          · exact h3 y hy hyf
  obtain ⟨cl, h1, h2, h3, _⟩ := go scope.names [] (fun x hx => ⟨hx, h x hx⟩) (fun p hp => (nomatch hp))
  refine ⟨cl, ?_, h2, h3⟩
  show ((forIn scope.names ([] : List (Str × Addr)) fun (x : Str × NameKind) (r : List (Str × Addr)) => (if (x.2 == .free) = true then (do let c ← cellOf env x.1; pure (.yield ((x.1, c) :: r))) else pure (.yield r) : Sem (ForInStep (List (Str × Addr))))) >>= fun r => pure r) = pure cl
  rw [h1]; rfl

noncomputable def relabelS (scope outer : Scope) : Scope :=
  { scope with names := scope.names.map fun (n, k) => if (k == .free && outer.kind == .function && outer.names.lookup n == some .cell) then (n, .cell) else (n, k) }
theorem relabel_eq {scope : Scope} {env : Env} {sc : Scope} (h : env.scope = sc) : relabel scope env = relabelS scope sc := by
  unfold relabel relabelS Env.kindOf; rw [h]

noncomputable def NoX : Str → Prop := fun _ => False
theorem EP.no {B : Bs} {s : Shared} {e s'} (x : EP B NoX s e s') : False := let ⟨_, _, _, h, _⟩ := x; h

noncomputable def capSlot : Option (Option Sl) → Option Sl
  | some (some (.own c _)) => some (.fz c)
  | some x => x
  | none => none

structure CompOk (F Fc : Fi) (scope : Scope) (m : Nat) (caps : List Nat) : Prop where
  sc : Fc.scope = relabelS scope F.scope
  nodup : (scope.names.map (·.1)).Nodup
  own : Fc.own = m
  kind : scope.kind = .function
  names : ∀ x ∈ scope.names, x.2 = .local → scope.names.lookup x.1 = some .local
  free : ∀ x ∈ scope.names, x.2 = .free → ∃ (i : Nat) (k : Kd), F.vars[i]? = some (x.1, k) ∧ k ≠ .loc
  targets : ∀ (i : Nat) x k, i < m → Fc.vars[i]? = some (x, k) → scope.names.lookup x = some k.kind ∧ k ≠ .fre
  outer : ∀ (i : Nat) x k, m ≤ i → Fc.vars[i]? = some (x, k) → scope.names.lookup x = some .free ∧ ∃ (j : Nat) (k' : Kd), caps[i - m]? = some j ∧ F.vars[j]? = some (x, k') ∧ k' ≠ .loc

theorem cellsFrom_lookup {x : Str} : ∀ (names : List (Str × NameKind)) (n : Nat) (acc : List (Str × Addr)), (∀ p ∈ names, p.1 = x → p.2 ≠ .cell) → (cellsFrom n names acc).lookup x = acc.lookup x
  | [], _, _, _ => rfl
  | (y, k) :: r, n, acc, h => by
    unfold cellsFrom
    split
    · rename_i hk
      rw [cellsFrom_lookup r (n + 1) _ fun p hp => h p (List.mem_cons_of_mem _ hp), List.lookup_cons]
      have : (x == y) = false := by
        cases q : x == y with
        | false => rfl
        | true => exact absurd (by simpa using hk) (h (y, k) List.mem_cons_self (beq_iff_eq.mp q).symm)
      rw [this]
    · exact cellsFrom_lookup r n acc fun p hp => h p (List.mem_cons_of_mem _ hp)
end Mine
end

section
open PySem PySem.W PyProof.Rows PySem.Calls PyProof
set_option Elab.async false
set_option maxRecDepth 100000
set_option linter.unusedVariables false
namespace Mine

theorem cellsFrom_new : ∀ (names : List (Str × NameKind)) (h : Heap) (acc : List (Str × Addr)) (p : Str × Addr), p ∈ cellsFrom h.objs.size names acc → p ∈ acc ∨ ((pushCells h names).IsCell p.2 none ∧ h.objs.size ≤ p.2)
  | [], _, _, _, hp => .inl hp
  | (y, k) :: r, h, acc, p, hp => by
    unfold cellsFrom at hp
    unfold pushCells
    split at hp
    · rename_i hk
      rw [if_pos hk]
      have := cellsFrom_new r (h.push { cls := .type "cell", data := .cell none }) ((y, h.objs.size) :: acc) p (by rw [Heap.size_push]; exact hp)
      rcases this with q | q
      · rcases List.mem_cons.mp q with rfl | q
        · exact .inr ⟨⟨_, pushCells_keeps _ _ _ _ (Heap.get?_push_size _ rfl), rfl⟩, Nat.le_refl _⟩
        · exact .inl q
      · rw [Heap.size_push] at q; exact .inr ⟨q.1, by (first | lia | omega)⟩
    · rename_i hk
      rw [if_neg hk]
      exact cellsFrom_new r h acc p hp
theorem cellsFrom_inj : ∀ (names : List (Str × NameKind)) (n : Nat) (acc : List (Str × Addr)), (∀ p ∈ acc, ∀ q ∈ acc, p.2 = q.2 → p.1 = q.1) → (∀ p ∈ acc, p.2 < n) →
    ∀ p ∈ cellsFrom n names acc, ∀ q ∈ cellsFrom n names acc, p.2 = q.2 → p.1 = q.1
  | [], _, _, h, _ => h
  | (y, k) :: r, n, acc, h, hl => by
    unfold cellsFrom
    split
    · refine cellsFrom_inj r (n + 1) _ (fun p hp q hq e => ?_) fun p hp => ?_
      · rcases List.mem_cons.mp hp with rfl | hp <;> rcases List.mem_cons.mp hq with rfl | hq
        · rfl
        · exact absurd (hl q hq) (by rw [← e]; exact Nat.lt_irrefl _)
        · exact absurd (hl p hp) (by rw [e]; exact Nat.lt_irrefl _)
        · exact h p hp q hq e
      · rcases List.mem_cons.mp hp with rfl | hp
        · exact Nat.lt_succ_self _
        · exact Nat.lt_succ_of_lt (hl p hp)
    · exact cellsFrom_inj r n acc h hl
theorem lookup_of_mem_nd {α : Type} : ∀ {l : List (Str × α)}, (l.map (·.1)).Nodup → ∀ {x : Str} {k : α}, (x, k) ∈ l → l.lookup x = some k
  | (y, k') :: r, nd, x, k, h => by
    rw [List.map_cons, List.nodup_cons] at nd
    rw [List.lookup_cons]
    rcases List.mem_cons.mp h with e | h
    · cases e; simp
    · have : (x == y) = false := by
        cases q : x == y with
        | false => rfl
        | true => exact absurd (List.mem_map.mpr ⟨_, h, (beq_iff_eq.mp q)⟩) nd.1
      rw [this]; exact lookup_of_mem_nd nd.2 h

theorem newEnvComp {M : Model} {A : Around} {E : Value → Shared → Prop} {s : Shared} {scope : Scope} {globals : Addr} {cl : List (Str × Addr)} {qual : Str} {env : Env} {Q : Env → Shared → Prop}
    (h : Q { scope, locals := s.heap.objs.size, globals, cells := cellsFrom (s.heap.objs.size + 1) scope.names cl, qual, func := none, code := env.code, frame := env.frame, builtins := env.builtins }
      { s with heap := pushCells (s.heap.push { cls := .type "dict", data := .dict #[] }) scope.names }) :
    wpAny M A (newFunctionEnv scope globals cl [] qual none .none (some env)) Q E s := by
  simp only [newFunctionEnv, Option.isSome_some, if_true]
  refine wpAny_bind (wpAny_alloc ?_)
  refine wpAny_bind (wpAny_layCells _ (fun name kind cells => by cases hkc : kind == NameKind.cell <;> simp [hkc]) _ _ _ _ ?_)
  rw [show ({ s with heap := s.heap.push { cls := .type "dict", data := .dict #[] } } : Shared).heap.objs.size = s.heap.objs.size + 1 from Heap.size_push ..]
  rw [List.forIn_nil]
  exact wpAny_bind (wpAny_pure (wpAny_pure h))

section
variable {B : Bs} {F : Fi} {X : Str → Prop} {n : Nat} {ρ : List (Option Sl)}

noncomputable def compStart0 (m : Nat) (ρ : List (Option Sl)) (caps : List Nat) : List (Option Sl) := List.replicate m none ++ caps.map fun j => capSlot ρ[j]?

theorem relabelS_free {scope outer : Scope} {x : Str} (h : scope.names.lookup x = some .free) : (relabelS scope outer).names.lookup x ≠ some .local := by
  unfold relabelS
  intro q
  have go : ∀ l : List (Str × NameKind), l.lookup x = some .free → (l.map fun (n, k) => if (k == NameKind.free && outer.kind == .function && outer.names.lookup n == some .cell) then (n, NameKind.cell) else (n, k)).lookup x ≠ some .local := by
    intro l
    induction l with
    | nil => intro e; cases e
    | cons p r ih =>
      obtain ⟨y, k⟩ := p
      intro e
      rw [List.lookup_cons] at e
      rw [List.map_cons]
      cases hx : x == y with
      | true =>
        rw [hx] at e; cases e
        simp only
        split <;> (rw [List.lookup_cons, hx]; intro q; cases q)
      | false =>
        rw [hx] at e
        simp only
        split <;> (rw [List.lookup_cons, hx]; exact ih e)
  exact go _ h q
theorem compRp {env : Env} {oa : Nat → Option Addr} {s0 s : Shared} {Fc : Fi} {scope : Scope} {m K : Nat} {acc : Addr} {caps : List Nat} {cl : List (Str × Addr)} (R0 : Rp B F env oa ρ s0) (k0 : Kp B s0 s) (hacc0 : s0.heap.get? acc = none) (hacc : ∃ o, s.heap.get? acc = some o) (ok : CompOk F Fc scope m caps)
    (h1' : ∀ p ∈ cl, env.cells.lookup p.1 = some p.2 ∧ (p.1, NameKind.free) ∈ scope.names) (h2 : ∀ x ∈ scope.names, x.2 = .free → (cl.lookup x.1).isSome = true) :
    Rp B Fc { scope := relabel scope env, locals := s.heap.objs.size, globals := env.globals, cells := cellsFrom (s.heap.objs.size + 1) scope.names cl, qual := env.qual, func := none, code := env.code, frame := env.frame, builtins := env.builtins }
      (fun j => if j = K then some acc else none) (compStart0 m ρ caps) { s with heap := pushCells (s.heap.push { cls := .type "dict", data := .dict #[] }) scope.names } ∧
    Kp B s { s with heap := pushCells (s.heap.push { cls := .type "dict", data := .dict #[] }) scope.names } := by
  have R := R0.kp k0
  have h1 : ∀ p ∈ cl, env.cells.lookup p.1 = some p.2 := fun p hp => (h1' p hp).1
  have kk : ∀ b o, s.heap.get? b = some o → (pushCells (s.heap.push { cls := .type "dict", data := .dict #[] }) scope.names).get? b = some o := fun b o e => pushCells_keeps _ _ b o (Heap.get?_push_of_some _ e)
  have k : Kp B s { s with heap := pushCells (s.heap.push { cls := .type "dict", data := .dict #[] }) scope.names } := Kp.of (t := s.toks) kk
  refine ⟨?_, k⟩
  have hLn : (pushCells (s.heap.push { cls := .type "dict", data := .dict #[] }) scope.names).Ns s.heap.objs.size fun _ => none := (Heap.Ns.new s.heap (.type "dict")).keeps (pushCells_keeps _ _)
  have cnew := cellsFrom_new scope.names (s.heap.push { cls := .type "dict", data := .dict #[] }) cl
  rw [Heap.size_push] at cnew
  have clIn : ∀ p ∈ cl, p ∈ env.cells := fun p hp => mem_of_lookup (h1 p hp)
  have clLive : ∀ p ∈ cl, ∃ o, s.heap.get? p.2 = some o := fun p hp => by
    obtain ⟨v, o, ho, _⟩ := R.cellsLive p.1 p.2 (clIn p hp); exact ⟨o, ho⟩
  have clLt : ∀ p ∈ cl, p.2 < s.heap.objs.size := fun p hp => by obtain ⟨o, ho⟩ := clLive p hp; exact Heap.lt_size ho
  have newB : ∀ a, s.heap.objs.size ≤ a → B.hB.get? a = none := fun a ha => by
    cases e : B.hB.get? a with
    | none => rfl
    | some o => exact absurd (Heap.lt_size (R.base a o e)) (Nat.not_lt.mpr ha)
  have capLook : ∀ x, scope.names.lookup x = some .free → ∃ c, (cellsFrom (s.heap.objs.size + 1) scope.names cl).lookup x = some c ∧ env.cells.lookup x = some c := fun x hx => by
    rw [cellsFrom_lookup scope.names _ cl fun p hp hpx => by
      have := lookup_of_mem_nd ok.nodup (show (p.1, p.2) ∈ scope.names from hp)
      rw [hpx, hx] at this; intro q; rw [q] at this; cases this]
    obtain ⟨c, hc⟩ := Option.isSome_iff_exists.mp (h2 (x, .free) (mem_of_lookup hx) rfl)
    exact ⟨c, hc, h1 _ (mem_of_lookup hc)⟩
  have priv : ∀ a, Priv { scope := relabel scope env, locals := s.heap.objs.size, globals := env.globals, cells := cellsFrom (s.heap.objs.size + 1) scope.names cl, qual := env.qual, func := none, code := env.code, frame := env.frame, builtins := env.builtins } a →
      s.heap.get? a = none := by
    rintro a (q | q)
    · rw [q]; exact fresh_size s
    · cases e : s.heap.get? a with
      | none => rfl
      | some o => exact absurd (Heap.lt_size e) (Nat.not_lt.mpr (Nat.le_of_lt q.1))
  refine ⟨fun b o e => kk b o (R.base b o e), ?_, R.globals, R.builtins, ⟨_, hLn⟩, ?_, ?_, ?_, ?_, ?_, ?_, (fun i j a q q' => by split at q <;> split at q' <;> simp_all), (fun i a q => ?_)⟩
  · show relabel scope env = _; rw [ok.sc]; exact relabel_eq R.scope
  · intro i x kd hi hne
    by_cases hm : i < m
    · obtain ⟨hl, hnf⟩ := ok.targets i x kd hm hi
      cases kd with
      | loc => exact (hne rfl).elim
      | fre => exact (hnf rfl).elim
      | cel =>
        obtain ⟨c, hc⟩ := Option.isSome_iff_exists.mp (cellsFrom_some scope.names (s.heap.objs.size + 1) cl (.inl hl))
        have : (pushCells (s.heap.push { cls := .type "dict", data := .dict #[] }) scope.names).IsCell c none ∧ s.heap.objs.size + 1 ≤ c := ?_
        · exact ⟨c, none, hc, this.1, fun _ => this.2⟩
        rcases cnew _ (mem_of_lookup hc) with q | q
        · -- a name of its own is none of the closure
          exfalso
          have := lookup_of_mem_nd ok.nodup (h1' _ q).2
          rw [hl] at this; cases this
        · exact q
    · obtain ⟨hl, _⟩ := ok.outer i x kd (Nat.le_of_not_lt hm) hi
      obtain ⟨c, hc, hc'⟩ := capLook x hl
      obtain ⟨j, k', hj, hjne⟩ := ok.free (x, .free) (mem_of_lookup hl) rfl
      obtain ⟨c2, v, h3, h4, _⟩ := R.cells j x k' hj hjne
      rw [hc'] at h3; cases h3
      exact ⟨c, v, hc, h4.keeps kk, fun q => absurd q (by rw [ok.own]; exact hm)⟩
  · intro x y c hx hy
    exact cellsFrom_inj scope.names _ cl (fun p hp q hq e => R.apart p.1 q.1 p.2 (h1 p hp) (e ▸ h1 q hq)) (fun p hp => Nat.lt_succ_of_lt (clLt p hp)) _ (mem_of_lookup hx) _ (mem_of_lookup hy) rfl
  · intro x c hm q
    rcases cnew _ hm with r | r
    · have := clLt _ r; rw [q] at this; exact absurd this (Nat.lt_irrefl _)
    · exact absurd r.2 (by show ¬ _ ≤ c; rw [q]; exact Nat.not_succ_le_self _)
  · intro x c hm
    rcases cnew _ hm with r | r
    · obtain ⟨v, hv⟩ := R.cellsLive _ _ (clIn _ r)
      exact ⟨v, hv.keeps kk⟩
    · exact ⟨_, r.1⟩
  · rintro a (q | ⟨x, q⟩)
    · exact newB a (by rw [q]; exact Nat.le_refl _)
    · rcases cnew _ q with r | r
      · exact R.privNew a (.inr ⟨x, clIn _ r⟩)
      · exact newB a (Nat.le_of_succ_le r.2)
  · intro i x kd sl hi hρ
    have hm : m ≤ i := by
      by_cases q : i < m
      · unfold compStart0 at hρ
        rw [List.getElem?_append_left (by simpa using q), List.getElem?_replicate] at hρ
        split at hρ <;> cases hρ
      · exact Nat.le_of_not_lt q
    unfold compStart0 at hρ
    rw [List.getElem?_append_right (by simpa using hm), List.length_replicate, List.getElem?_map] at hρ
    obtain ⟨hl, j, k', hj, hjv, hjne⟩ := ok.outer i x kd hm hi
    rw [hj] at hρ
    obtain ⟨c, hc, hc'⟩ := capLook x hl
    have hkd : kd ≠ .loc := fun q => by
      subst q
      have hx := (Fc.at hi).1
      rw [ok.sc] at hx
      exact absurd hx (relabelS_free hl)
    rw [Option.map_some] at hρ
    cases hρj : ρ[j]? with
    | none => rw [hρj] at hρ; cases hρ
    | some o => cases o with
      | none => rw [hρj] at hρ; cases hρ
      | some sl0 =>
        rw [hρj] at hρ
        have old0 := R0.slots j x k' sl0 hjv hρj
        have old := SlotOk.kp k0 old0
        have var : ∀ v, VarAt env s.heap x k' v → VarAt { scope := relabel scope env, locals := s.heap.objs.size, globals := env.globals, cells := cellsFrom (s.heap.objs.size + 1) scope.names cl, qual := env.qual, func := none, code := env.code, frame := env.frame, builtins := env.builtins } (pushCells (s.heap.push { cls := .type "dict", data := .dict #[] }) scope.names) x kd v := fun v hv => by
          have : s.heap.IsCell c (some v) := by
            cases k' with
            | loc => exact (hjne rfl).elim
            | cel => obtain ⟨c2, h3, h4⟩ := hv; rw [hc'] at h3; cases h3; exact h4
            | fre => obtain ⟨c2, h3, h4⟩ := hv; rw [hc'] at h3; cases h3; exact h4
          cases kd with
          | loc => exact (hkd rfl).elim
          | cel => exact ⟨c, hc, this.keeps kk⟩
          | fre => exact ⟨c, hc, this.keeps kk⟩
        have nfw : ∀ a c', ContAt B s0.heap a c' → ¬ Priv env a → ¬ FW { scope := relabel scope env, locals := s.heap.objs.size, globals := env.globals, cells := cellsFrom (s.heap.objs.size + 1) scope.names cl, qual := env.qual, func := none, code := env.code, frame := env.frame, builtins := env.builtins } (fun j => if j = K then some acc else none) a := by
          rintro a c' hca hnp (q | ⟨j', q⟩)
          · obtain ⟨o, ho⟩ := (hca.kp k0 (fun x => x)).exists; rw [priv a q] at ho; cases ho
          · dsimp only at q
            split at q
            · cases q; obtain ⟨o, ho⟩ := hca.exists; rw [hacc0] at ho; cases ho
            · cases q
        cases sl0 with
        | im d => cases hρ; (obtain ⟨v, h3, h4⟩ := old; exact ⟨v, var v h3, h4.grow k.tups⟩)
        | fz c0 =>
          cases hρ
          obtain ⟨a, h3, h4, h5⟩ := old0
          exact ⟨a, (h3.keep (fun b o h => k0.data b o h (fun x => x)) k0.tups).map var k.tups, (h4.kp k0 (fun x => x)).kp k (fun x => x), nfw a c0 h4 fun q => h5 (.inl q)⟩
        | own c0 =>
          cases hρ
          obtain ⟨a, h3, h4, h5, _⟩ := old0
          exact ⟨a, (h3.keep (fun b o h => k0.data b o h (fun x => x)) k0.tups).map var k.tups, (h4.kp k0 (fun x => x)).kp k (fun x => x), nfw a c0 h4 (R0.opriv j a h5).1⟩
  · split at q
    · cases q
      obtain ⟨o, ho⟩ := hacc
      refine ⟨fun q => ?_, (R0.new hacc0).2, o, kk _ _ ho⟩
      rw [priv acc q] at ho; cases ho
    · cases q
end
end Mine
end

section
open PySem PySem.W PyProof.Rows PySem.Calls PyProof
set_option Elab.async false
set_option maxRecDepth 100000
set_option linter.unusedVariables false
namespace Mine
section
variable {B : Bs} {F : Fi} {X : Str → Prop} {n : Nat} {ρ : List (Option Sl)}

theorem Itr.again {A : Around} {s : Shared} {it : Addr} {dep ds} {Q : Value → Shared → Prop} {E} (x : Itr s.heap it dep ds) (h : Q (.ref it) s) : wpAny (model B.prog B.w) A (pyIter (.ref it)) Q E s := by
  cases x with
  | list a b c => exact wpAny_pyIter_listiter a h
  | tup a b c => exact wpAny_pyIter_tupleiter a h
  | rng a => exact wpAny_pyIter_rangeiter a h
  | asc a => exact wpAny_pyIter_striter_ascii a h
  | wid a => exact wpAny_pyIter_striter_wide a h

structure IfsW (B : Bs) (F : Fi) (n : Nat) (ρ : List (Option Sl)) (ifs : List Expr) (Q : Bool → Prop) : Prop where
  go : ∀ env oa A s (E : Value → Shared → Prop), Rp B F env oa ρ s → Ar B A n s →
    wpAny (model B.prog B.w) A (forIn ifs true fun c r => if r = true then do let ok ← isTrue c env (eval c env); pure (ForInStep.yield ok) else pure (ForInStep.yield r)) (fun b s' => Q b ∧ Kp B s s') E s
theorem IfsW.nil {Q : Bool → Prop} (h : Q true) : IfsW B F n ρ [] Q := .mk fun env oa A s E R a => wpAny_tests_nil ⟨h, Kp.refl _⟩
noncomputable def CW (B : Bs) (Fc : Fi) (n : Nat) (m : Nat) (ρc : List (Option Sl)) (target : Expr) (ifs : List Expr) (elt : Expr) (d : D) (out : Option D) : Prop :=
  AsW B Fc n ρc target d fun ρ2 => ρ2.drop m = ρc.drop m ∧ IfsW B Fc n ρ2 ifs fun b => if b = true then EW B Fc NoX n ρ2 elt fun r => ∃ e, out = some e ∧ r = .im e else out = none

theorem Rp.forget {env oa} {s : Shared} {ρ' : List (Option Sl)} (R : Rp B F env oa ρ s) (h : ∀ (i : Nat) sl, ρ'[i]? = some (some sl) → ρ[i]? = some (some sl)) : Rp B F env oa ρ' s :=
  ⟨R.base, R.scope, R.globals, R.builtins, R.ns, R.cells, R.apart, R.locCell, R.cellsLive, R.privNew, fun i x k sl h1 h2 => R.slots i x k sl h1 (h i sl h2), R.oinj, R.opriv⟩


theorem Rp.upd {env oa} {s : Shared} {a : Addr} {j : Nat} {h' : Heap} {t : Nat} (R : Rp B F env oa ρ s) (hj : oa j = some a) (hs : Heap.SameBut a s.heap h') (hl : ∃ o, h'.get? a = some o) (hc : ∃ c, ContAt B s.heap a c)
    (ρ' : List (Option Sl)) (hρ : ∀ (i : Nat) x k sl, F.vars[i]? = some (x, k) → ρ'[i]? = some (some sl) → (ρ[i]? = some (some sl) ∧ i ≠ j) ∨ (i = j ∧ ∃ c c' m, sl = .own c' m ∧ ρ[i]? = some (some (.own c m)) ∧ ContAt B h' a c' ∧ ∀ v, Vw h' v a c → Vw h' v a c')) :
    Rp B F env oa ρ' { s with heap := h', toks := t } ∧ Grow s.heap h' := by
  obtain ⟨c0, hc⟩ := hc
  have hnt : ∀ o, s.heap.get? a = some o → ∀ vs n, o.data = .seq vs n → o.cls ≠ .type "tuple" := fun o ho vs n hd q => by
    cases c0 with
    | lst l => obtain ⟨o', vs', n', h1, ⟨h2, _⟩, h3, _⟩ := hc; rw [ho] at h1; cases h1; rw [h2] at q; exact absurd q (by decide)
    | dct l => obtain ⟨_, kvs, ⟨o', es, ep, h1, h2, h3, _⟩, _⟩ := hc; rw [ho] at h1; cases h1; rw [h3] at hd; cases hd
    | rng x y => obtain ⟨t, u, v, h1⟩ := hc; rw [IsRange, ho] at h1; cases h1; cases hd
    | exc c => obtain ⟨o', C, vs', h1, h2, h3, h4⟩ := hc; rw [ho] at h1; cases h1; rw [h4] at hd; cases hd
    | pair d l => obtain ⟨o', vs', n', h1, ⟨h2, _⟩, h3, _⟩ := hc; rw [ho] at h1; cases h1; rw [h2] at q; exact absurd q (by decide)
  have hg : Grow s.heap h' := fun b o vs n e c d => (hs.2 b (fun q => by subst q; exact hnt o e vs n d c)).trans e
  refine ⟨?_, hg⟩
  obtain ⟨hp, hb, o0, ho0⟩ := R.opriv j a hj
  have hL : env.locals ≠ a := fun q => hp (.inl q.symm)
  have hC : ∀ y c, (y, c) ∈ env.cells → c ≠ a := fun y c hm q => by
    obtain ⟨v, oc, h1, h2⟩ := R.cellsLive y c hm
    subst q
    cases c0 with
    | lst l => obtain ⟨o', vs', n', h3, ⟨h4, _⟩, h5, _⟩ := hc; rw [h1] at h3; cases h3; rw [h2] at h5; cases h5
    | dct l => obtain ⟨_, kvs, ⟨o', es, ep, h3, h4, h5, _⟩, _⟩ := hc; rw [h1] at h3; cases h3; rw [h2] at h5; cases h5
    | rng x y => obtain ⟨t, u, v, h3⟩ := hc; rw [IsRange, h1] at h3; cases h3; cases h2
    | exc c => obtain ⟨o', C, vs', h3, h4, h5, h6⟩ := hc; rw [h1] at h3; cases h3; rw [h2] at h6; cases h6
    | pair d l => obtain ⟨o', vs', n', h3, ⟨h4, _⟩, h5, _⟩ := hc; rw [h1] at h3; cases h3; rw [h2] at h5; cases h5
  have cell : ∀ {y c v}, env.cells.lookup y = some c → s.heap.IsCell c v → h'.IsCell c v := fun {y c v} hl hz1 => by obtain ⟨oc, h1, h2⟩ := hz1; exact ⟨oc, (hs.2 c (hC y c (mem_of_lookup hl))).trans h1, h2⟩
  have ns : ∀ {m}, s.heap.Ns env.locals m → h'.Ns env.locals m := fun y => y.sameBut hs hL
  have var : ∀ {y k v}, VarAt env s.heap y k v → VarAt env h' y k v := fun {y k v} hv => by
    cases k with
    | loc => (obtain ⟨m, h1, h2⟩ := hv; exact ⟨m, ns h1, h2⟩)
    | cel => (obtain ⟨c, h1, h2⟩ := hv; exact ⟨c, h1, cell h1 h2⟩)
    | fre => (obtain ⟨c, h1, h2⟩ := hv; exact ⟨c, h1, cell h1 h2⟩)
  have cont : ∀ {b c}, b ≠ a → ContAt B s.heap b c → ContAt B h' b c := fun {b c} ne y => y.of_same (fun ob e _ => (hs.2 b ne).trans e) hg
  refine ⟨fun b ob e => (hs.2 b (fun q => by subst q; rw [hb] at e; cases e)).trans (R.base b ob e), R.scope, R.globals, R.builtins, ?_, ?_, R.apart, R.locCell, ?_, R.privNew, ?_, R.oinj, ?_⟩
  · (obtain ⟨m, h⟩ := R.ns; exact ⟨m, ns h⟩)
  · intro i y k h1 h2
    obtain ⟨c, v, h3, h4, h5⟩ := R.cells i y k h1 h2
    exact ⟨c, v, h3, cell h3 h4, h5⟩
  · intro y c hm
    obtain ⟨v, ob, h1, h2⟩ := R.cellsLive y c hm
    exact ⟨v, ob, (hs.2 c (hC y c hm)).trans h1, h2⟩
  · intro i y k sl h1 h2
    rcases hρ i y k sl h1 h2 with ⟨h3, hij⟩ | ⟨hij, c, c', m, rfl, h3, h4, hvw⟩
    · have z := R.slots i y k sl h1 h3
      cases sl with
      | im d => (obtain ⟨v, h3, h4⟩ := z; exact ⟨v, var h3, h4.grow hg⟩)
      | fz c => (obtain ⟨b, h3, h4, h5⟩ := z; exact ⟨b, h3.map (fun _ => var) hg, cont (fun q => h5 (.inr ⟨j, q ▸ hj⟩)) h4, h5⟩)
      | own c => (obtain ⟨b, h3, h4, h5, h6⟩ := z; exact ⟨b, h3.map (fun _ => var) hg, cont (fun q => hij (R.oinj i j a (q ▸ h5) hj)) h4, h5, h6⟩)
    · obtain ⟨b, h5, h6, h7, h8⟩ := R.slots i y k _ h1 h3
      rw [hij, hj] at h7; cases h7
      obtain ⟨u, h5a, h5b⟩ := (h5.map (fun _ => var) hg).get
      exact ⟨a, .of h5a (hvw u h5b), h4, hij ▸ hj, h8⟩
  · intro i b h
    obtain ⟨h1, h2, ob, h3⟩ := R.opriv i b h
    by_cases q : b = a
    · subst q; exact ⟨h1, h2, hl⟩
    · exact ⟨h1, h2, ob, (hs.2 b q).trans h3⟩
theorem Ar.same {A : Around} {s : Shared} {a : Addr} {c : Cont} {h' : Heap} {t : Nat} (ar : Ar B A n s) (hc : ContAt B s.heap a c) (hs : Heap.SameBut a s.heap h') : Ar B A n { s with heap := h', toks := t } := by
  obtain ⟨l, f1, f2, f3⟩ := ar.frames
  have hnf : ∀ L ∈ l.filterMap (·.frame), L ≠ a := fun L hL q => by
    obtain ⟨oL, es, ep, q1, q2, q3⟩ := f3 L hL
    subst q
    cases c with
    | lst l => obtain ⟨o', vs', n', h3, ⟨h4, _⟩, h5, _⟩ := hc; rw [q1] at h3; cases h3; rw [q2] at h4; exact absurd h4 (by decide)
    | dct l => obtain ⟨_, kvs, ⟨o', es, ep, h3, h4, h5, _⟩, _⟩ := hc; rw [q1] at h3; cases h3; have h6 := h4.1; rw [q2] at h6; exact absurd h6 (by decide)
    | rng x y => obtain ⟨t, u, v, h3⟩ := hc; rw [IsRange, q1] at h3; cases h3; exact absurd (show Value.type "range" = Value.type "frame" from q2) (by decide)
    | exc c => obtain ⟨o', C, vs', h3, h4, h5, h6⟩ := hc; rw [q1] at h3; cases h3; rw [q2] at h5; cases h5
    | pair d l => obtain ⟨o', vs', n', h3, ⟨h4, _⟩, h5, _⟩ := hc; rw [q1] at h3; cases h3; rw [q2] at h4; exact absurd h4 (by decide)
  refine ⟨ar.depth, ar.units, ar.handled, l, f1, ?_, fun L hL => ?_⟩
  · have go : ∀ l : List Env, (∀ L ∈ l.filterMap (·.frame), L ≠ a) → s.heap.FunFrames B.hB l → Heap.FunFrames h' B.hB l := by
      intro l
      induction l with
      | nil => intro _ _; trivial
      | cons e r ih =>
        rintro hne ⟨hk, ⟨L, o, hf, hn, ho, hd⟩, hr⟩
        rw [List.filterMap_cons, hf] at hne
        exact ⟨hk, ⟨L, o, hf, hn, (hs.2 L (hne L List.mem_cons_self)).trans ho, hd⟩, ih (fun L' hL' => hne L' (List.mem_cons_of_mem _ hL')) hr⟩
    exact go l hnf f2
  · obtain ⟨oL, es, ep, q1, q2, q3⟩ := f3 L hL
    exact ⟨oL, es, ep, (hs.2 L (hnf L hL)).trans q1, q2, q3⟩

noncomputable def CompInv (B : Bs) (Fc : Fi) (n : Nat) (cenv : Env) (ρc : List (Option Sl)) (A : Around) (s : Shared) (ds : List D) (f : D → Option D) (it acc : Addr) (dep : Option Addr) (K k : Nat) (t : Shared) : Prop :=
  ∃ pre ds' oa', ds'.length = k ∧ ds = pre ++ ds' ∧ Rp B Fc cenv oa' ρc t ∧ oa' K = some acc ∧ Ar B A n t ∧ Kp B s t ∧ Itr t.heap it dep ds' ∧ ¬ FW cenv oa' it ∧ (∀ l, dep = some l → ¬ FW cenv oa' l) ∧ ContAt B t.heap acc (.lst (pre.filterMap f))
theorem compLoop {A : Around} {Fc : Fi} {m : Nat} {ρc : List (Option Sl)} {elt target iter : Expr} {ifs : List Expr} {scope : Scope} {pos : Pos} {it acc : Addr} {dep : Option Addr} {cenv : Env} {oa : Nat → Option Addr} {K : Nat} {s s4 : Shared} {ds : List D} {f : D → Option D} {R : Result → Shared → Prop}
    (hbs : Bas B s) (hK : Fc.vars.length ≤ K) (hoa : oa K = some acc) (R4 : Rp B Fc cenv oa ρc s4) (a4 : Ar B A n s4) (k4 : Kp B s s4) (hit : Itr s4.heap it dep ds) (hit0 : s.heap.get? it = none) (hne : dep ≠ some it) (hacc0 : s.heap.get? acc = none)
    (hacc : PlainL s4.heap acc #[]) (hitF : ¬ FW cenv oa it) (hdep : ∀ l, dep = some l → ¬ FW cenv oa l) (hP : ∀ b, Priv cenv b → s.heap.get? b = none)
    (hw : ∀ d ∈ ds, CW B Fc n m ρc target ifs elt d (f d)) (hρ : ∀ (i : Nat) sl, ρc[i]? = some (some sl) → m ≤ i) (hsz : (ds.filterMap f).length ≤ sizeLine)
    (hR : ∀ s', (∃ mm, s'.heap.Ns cenv.locals mm) → Kp B s s' → ContAt B s'.heap acc (.lst (ds.filterMap f)) → R (.ok .next) s') (hq : B.quiet = true) :
    codeAny (model B.prog B.w) A (.compLoop (.ListComp elt [⟨target, iter, ifs, 0⟩] scope pos) 0 (.ref it) (.ref acc) cenv) R s4 := by
  have hbit : B.hB.get? it = none := by
    cases e : B.hB.get? it with
    | none => rfl
    | some o => rw [hbs it o e] at hit0; cases hit0
  refine codeAny_loop rfl (CompInv B Fc n cenv ρc A s ds f it acc dep K) (fun k t ht => ?_) ds.length ⟨[], ds, oa, rfl, rfl, R4, hoa, a4, k4, hit, hitF, hdep, ?_⟩
  · obtain ⟨pre, ds', oa', rfl, hds, Rt, hoat, at', kt, hitt, hif, hdf, hca⟩ := ht
    show wpAny _ _ ((compTurn (.ListComp elt [⟨target, iter, ifs, 0⟩] scope pos) 0 (.ref it) (.ref acc) cenv).onRaise (fun x => do noteFrame x cenv; theTreesLotGoes x)) _ _ t
    refine wpAny_noted ?_
    rw [compTurn_list]
    refine wpAny_bind (wpAny_standAt ?_)
    obtain ⟨oi, hoi, hci⟩ := hitt.itCls
    have hai : acc ≠ it := hca.ne hoi hci
    cases ds' with
    | nil =>
      refine wpAny_bind (wpAny_mono (hitt.fin (at'.handled hq) kt hit0 (E := fun _ _ => False)) (fun r t1 hz2 => ?_) fun _ _ x => x.elim)
      obtain ⟨e, kt1, h', e', hx, hg⟩ := hz2
      subst e; subst e'
      rw [List.append_nil] at hds; subst hds
      refine wpAny_pure (hR _ (Rt.ext hoi hci hbit hif hx hg (t := t.toks)).ns kt1 ?_)
      exact hca.of_same (fun o e _ => hx acc o hai e) hg
    | cons d ds' =>
      refine wpAny_bind (wpAny_mono (hitt.next hne kt hit0 (E := fun _ _ => False)) (fun r t1 hz3 => ?_) fun _ _ x => x.elim)
      obtain ⟨v, e, hv, hit1, kt1, h', tk, e', hx⟩ := hz3
      subst e; subst e'
      have hg := growBut hoi (by obtain ⟨_, T, hT, _, h2, _⟩ := hci; rw [hT]; intro q; cases q; exact h2 rfl) hx.extBut
      have R1 := Rt.ext hoi hci hbit hif hx.extBut hg (t := tk)
      have a1 := at'.ext hoi hci hx.extBut (t := tk)
      have hca1 : ContAt B h' acc (.lst (pre.filterMap f)) := hca.of_same (fun o e _ => (hx.2 acc hai).trans e) hg
      refine wpAny_bind (hit1.letGo ?_)
      refine wpAny_bind (wpAny_mono ((hw d (by rw [hds]; simp)).go cenv oa' A _ v _ R1 a1 hv) (fun _ t2 hz4 => ?_) fun _ _ x => x)
      obtain ⟨ρ2, oa2, ⟨hρ2, q2⟩, R2, kp2, o2, hKK⟩ := hz4
      have hoa2 : oa2 K = some acc := (hKK K hK).trans hoat
      have lit : ∃ o, h'.get? it = some o := by obtain ⟨o, ho, _⟩ := hit1.itCls; exact ⟨o, ho⟩
      have nP : ∀ b, (∃ o, s.heap.get? b = some o) → ¬ Priv cenv b := fun b hz5 q => by obtain ⟨o, ho⟩ := hz5; rw [hP b q] at ho; cases ho
      have kt2 : Kp B s t2 := KpW.trans kt1 kp2 fun b q => .inr (hP b q)
      have hif2 := notFW hif o2 lit
      have hdl : ∀ l, dep = some l → ∃ o, h'.get? l = some o := fun l hl => by
        subst hl
        cases hit1 with | list a b c => (obtain ⟨o, ho, _⟩ := b; exact ⟨o, ho⟩)
      have hdf2 : ∀ l, dep = some l → ¬ FW cenv oa2 l := fun l hl => notFW (hdf l hl) o2 (hdl l hl)
      have hit2 := hit1.kp kp2 (fun q => hif (.inl q)) (fun l hl q => hdf l hl (.inl q))
      have hca2 : ContAt B t2.heap acc (.lst (pre.filterMap f)) := hca1.kp kp2 (Rt.opriv K acc hoat).1
      refine wpAny_bind (wpAny_mono (q2.go cenv oa2 A t2 _ R2 (a1.kp kp2)) (fun b t3 hz6 => ?_) fun _ _ x => x)
      obtain ⟨q3, k3⟩ := hz6
      have R3 := R2.kp k3
      have back : ∀ {u : Shared} {ρ' : List (Option Sl)}, Rp B Fc cenv oa2 ρ' u → ρ'.drop m = ρc.drop m → Rp B Fc cenv oa2 ρc u := fun {u ρ'} Ru e => Ru.forget fun i sl hi => by
        have hm := hρ i sl hi
        have : (ρc.drop m)[i - m]? = some (some sl) := by rw [List.getElem?_drop, Nat.add_sub_cancel' hm]; exact hi
        rw [← e, List.getElem?_drop, Nat.add_sub_cancel' hm] at this
        exact this
      have hds2 : ds = (pre ++ [d]) ++ ds' := by rw [hds]; simp
      cases b with
      | false =>
        have hfd : f d = none := by simpa using q3
        refine wpAny_pure ⟨rfl, ds'.length, by simp, pre ++ [d], ds', oa2, rfl, hds2, back R3 hρ2, hoa2, (a1.kp kp2).kp k3, kt2.trans k3, hit2.kp k3 (fun x => x) (fun _ _ x => x), hif2, hdf2, ?_⟩
        rw [List.filterMap_append]
        simpa [hfd] using hca2.kp k3 (fun x => x)
      | true =>
        have q4 : EW B Fc NoX n ρ2 elt fun r => ∃ e, f d = some e ∧ r = .im e := by simpa using q3
        simp only [if_true]
        refine wpAny_bind (wpAny_bind (wpAny_mono (q4.go cenv oa2 A t3 R3 ((a1.kp kp2).kp k3)) (fun x t4 hz7 => ?_) fun _ _ x => x.no.elim))
        obtain ⟨r, ⟨e, hfd, hr⟩, k5, vx⟩ := hz7
        subst hr
        have hca4 := (hca2.kp k3 (fun x => x)).kp k5 (fun x => x)
        obtain ⟨oa', vs, kk, ho, hc, hd, hims⟩ := id hca4
        have hlen : vs.size = (pre.filterMap f).length := by rw [← Array.length_toList]; exact hims.length
        have hle : (pre.filterMap f).length ≤ sizeLine := by
          rw [hds, List.filterMap_append, List.length_append] at hsz; (clear hc hif2 hif hitF hK; (first | lia | omega))
        refine wpAny_bind (list_append_plainL ⟨oa', kk, ho, hc.1, hc.2, hd⟩ (fun h5 hl5 hs5 => ?_) (by rw [hlen]; exact hle))
        obtain ⟨o5, kk5, ho5, hc5, hc6, hd5⟩ := id hl5
        have R5 := (R3.kp k5).upd hoa2 hs5 ⟨o5, ho5⟩ ⟨_, hca4⟩ (t := t4.toks) ρ2 (fun i x k sl h1 h2 => .inl ⟨h2, fun q => by have := Fc.lt h1; (clear hle hlen hc hif2 hif hsz hitF; (first | lia | omega))⟩)
        have k45 : KpW B (fun b => b = acc) t4 { t4 with heap := h5 } := by
          refine ⟨fun b o e nw _ => (hs5.2 b nw).trans e, fun b o e nw => ⟨o.slots, (hs5.2 b nw).trans e⟩, R5.2, fun b o e => ?_, rfl, rfl⟩
          by_cases q : b = acc
          · subst q
            rw [ho] at e; cases e
            exact ⟨o5, ho5, (fun _ vs q => by rw [hd5] at q; cases q), (fun hz8 => by obtain ⟨es, ep, q⟩ := hz8; rw [hd] at q; cases q)⟩
          · exact ⟨o, (hs5.2 b q).trans e, fun x => x, fun x => ⟨rfl, x⟩⟩
        have kt5 : Kp B s { t4 with heap := h5 } := KpW.trans ((kt2.trans k3).trans k5) k45 fun b q => .inr (q ▸ hacc0)
        have hitn : it ≠ acc := hai.symm
        have hdn : ∀ l, dep = some l → ¬ l = acc := fun l hl q => hdf2 l hl (.inr ⟨K, q ▸ hoa2⟩)
        refine wpAny_pure (wpAny_pure ⟨rfl, ds'.length, by simp, pre ++ [d], ds', oa2, rfl, hds2, back R5.1 hρ2, hoa2, (((a1.kp kp2).kp k3).kp k5).same hca4 hs5, kt5,
          ((hit2.kp k3 (fun x => x) (fun _ _ x => x)).kp k5 (fun x => x) (fun _ _ x => x)).kp k45 hitn hdn, hif2, hdf2, ?_⟩)
        refine ⟨o5, _, kk5, ho5, ⟨hc5, hc6⟩, hd5, ?_⟩
        rw [List.filterMap_append]
        have := (hims.append (.cons vx .nil)).grow R5.2
        simpa [hfd] using this
  · obtain ⟨o, k, h1, h2, h2', h3⟩ := hacc
    exact ⟨o, #[], k, h1, ⟨h2, h2'⟩, h3, .nil⟩
end
end Mine
end

section
open PySem PySem.W PyProof.Rows PySem.Calls PyProof
set_option Elab.async false
set_option maxRecDepth 100000
set_option linter.unusedVariables false
namespace Mine
section
variable {B : Bs} {F : Fi} {X : Str → Prop} {n : Nat} {ρ : List (Option Sl)}

theorem compCore {env : Env} {oa : Nat → Option Addr} {A : Around} {s : Shared} {Fc : Fi} {m : Nat} {caps : List Nat} {elt target iter : Expr} {ifs : List Expr} {scope : Scope} {pos p : Pos} {use : Option (Value → Sem Unit)} {Q : Value → Shared → Prop} {QQ : List D → Prop}
    (R : Rp B F env oa ρ s) (a : Ar B A n s) (ok : CompOk F Fc scope m caps)
    (h : EW B F X n ρ iter fun r => ∃ ds, IterS B n r ds ∧ ∃ f : D → Option D, (∀ d ∈ ds, CW B Fc n m (compStart0 m ρ caps) target ifs elt d (f d)) ∧ (ds.filterMap f).length ≤ sizeLine ∧ QQ (ds.filterMap f))
    (hs : ∀ x, foldedSetIterable iter env x = pure x)
    (hQ : ∀ l acc C s', QQ l → Kp B s s' → ContAt B s'.heap acc (.lst l) → s.heap.get? acc = none → s.heap.get? C = none → (∃ mm, s'.heap.Ns C mm) → C ≠ acc →
      compPost (model B.prog B.w) A (EP B X s) use Q (.ref acc) C (.ok .next) s') (hq : B.quiet = true) :
    wpAny (model B.prog B.w) A (comprehension (.ListComp elt [⟨target, iter, ifs, 0⟩] scope pos) scope env p (newList []) false (eval iter env) use) Q (EP B X s) s := by
  obtain ⟨cl, hcl, hc1, hc2⟩ := closureFor_lookup (scope := scope) (env := env) fun x hx hf => by
    obtain ⟨i, k, hi, hk⟩ := ok.free x hx hf
    obtain ⟨c, v, h1, _⟩ := R.cells i x.1 k hi hk
    exact ⟨c, h1⟩
  refine wpAny_comprehension_free rfl hs hcl ok.kind ok.names ?_
  refine h.run R a (Kp.refl _) fun v s1 r hz1 k1 x1 => ?_
  obtain ⟨ds, hi, f, hw, hsz, q⟩ := hz1
  refine wpAny_mono (hi env oa A s s1 v _ (R.kp k1).base (a.kp k1) x1 fun b hb => (R.new hb).1) (fun itv s2 hz2 => ?_) fun _ _ x => x
  obtain ⟨it, dep, e, hit, hn, hne, hdep, k2⟩ := hz2
  subst e
  have k12 := k1.trans k2
  show wpAny _ _ (newObj (.type "list") (.seq ([] : List Value).toArray)) _ _ _
  refine wpAny_newObj_type ?_ (by show (#[] : Array Value).size ≤ sizeLine; exact Nat.zero_le _)
  have k3 : Kp B s2 { s2 with heap := s2.heap.push { cls := .type "list", data := .seq #[] } } := push_kp _
  have k13 := k12.trans k3
  have hacc0 : s.heap.get? s2.heap.objs.size = none := k12.fresh (fresh_size s2)
  have haccL : (s2.heap.push { cls := .type "list", data := .seq #[] }).IsList s2.heap.objs.size #[] := ⟨_, Heap.get?_push_size _ rfl, rfl, 0, rfl⟩
  have hit3 := hit.kp k3 (fun x => x) (fun _ _ x => x)
  refine newEnvComp ?_
  obtain ⟨oi, hoi, hci⟩ := hit.itCls
  obtain ⟨R4, k4⟩ := compRp (K := Fc.vars.length) (s := { s2 with heap := s2.heap.push { cls := .type "list", data := .seq #[] } }) R k13 hacc0 ⟨_, Heap.get?_push_size _ rfl⟩ ok hc1 hc2
  have k14 := k13.trans k4
  have hit4 := hit3.kp k4 (fun x => x) (fun _ _ x => x)
  have hL : s.heap.get? (s2.heap.push { cls := .type "list", data := .seq #[] }).objs.size = none := k13.fresh (fresh_size { s2 with heap := s2.heap.push { cls := .type "list", data := .seq #[] } })
  have hitlt : it < (s2.heap.push { cls := .type "list", data := .seq #[] }).objs.size := Heap.lt_size (Heap.get?_push_of_some _ hoi)
  have hitne : it ≠ s2.heap.objs.size := Nat.ne_of_lt (Heap.lt_size hoi)
  have privF : ∀ b, b < (s2.heap.push { cls := .type "list", data := .seq #[] }).objs.size → b ≠ s2.heap.objs.size → ¬ FW { scope := relabel scope env, locals := (s2.heap.push { cls := .type "list", data := .seq #[] }).objs.size, globals := env.globals, cells := cellsFrom ((s2.heap.push { cls := .type "list", data := .seq #[] }).objs.size + 1) scope.names cl, qual := env.qual, func := none, code := env.code, frame := env.frame, builtins := env.builtins } (fun j => if j = Fc.vars.length then some s2.heap.objs.size else none) b := by
    rintro b hb hb2 (q | ⟨j, q⟩)
    · rcases q with q | q
      · exact absurd hb (by rw [q]; exact Nat.lt_irrefl _)
      · exact absurd hb (Nat.not_lt.mpr (Nat.le_of_lt q.1))
    · dsimp only at q
      split at q
      · cases q; exact hb2 rfl
      · cases q
  have aR4 := (a.kp k13).kp k4
  have main := compLoop (R := compPost (model B.prog B.w) A (EP B X s) use Q (.ref s2.heap.objs.size) (s2.heap.push { cls := .type "list", data := .seq #[] }).objs.size) (elt := elt) (target := target) (iter := iter) (ifs := ifs) (scope := scope) (pos := pos) (hq := hq)
    R.base (Nat.le_refl Fc.vars.length) (if_pos rfl) R4 aR4 k14 hit4 (k1.fresh hn) hne hacc0 ⟨_, 0, pushCells_keeps _ _ _ _ (Heap.get?_push_of_some _ (Heap.get?_push_size _ rfl)), rfl, rfl, rfl⟩
    (privF it hitlt hitne) (fun l hl => by
      obtain ⟨_, o, ho⟩ := hdep l hl
      have : ∃ o, s2.heap.get? l = some o := ⟨o, k2.keep l o ho (fun x => x) (by
        subst hl
        cases hit with | list a b c => obtain ⟨o2, ho2, hc2, _⟩ := b; obtain ⟨o3, h3, _⟩ := k2.live l o ho; rw [ho2] at h3; cases h3; exact .inl (by
          obtain ⟨sl, h5⟩ := k2.data l o ho (fun x => x); rw [ho2] at h5; cases h5; rw [show o.cls = _ from hc2]; decide))⟩
      obtain ⟨o2, ho2⟩ := this
      exact privF l (Heap.lt_size (Heap.get?_push_of_some _ ho2)) (Nat.ne_of_lt (Heap.lt_size ho2)))
    (fun b q => by
      rcases q with q | q
      · rw [q]; exact hL
      · refine k13.fresh ?_
        cases e : (s2.heap.push { cls := .type "list", data := .seq #[] }).get? b with
        | none => rfl
        | some o => exact absurd (Heap.lt_size e) (Nat.not_lt.mpr (Nat.le_of_lt q.1)))
    hw (fun i sl hi => by
      by_cases q : i < m
      · unfold compStart0 at hi
        rw [List.getElem?_append_left (by simpa using q), List.getElem?_replicate] at hi
        split at hi <;> cases hi
      · exact Nat.le_of_not_lt q) hsz
    (fun s' hns ks hca => hQ _ _ _ s' q ks hca hacc0 hL hns (by rw [Heap.size_push]; exact Nat.ne_of_gt (Nat.lt_succ_self _)))
  exact codeAny_compStart_list main (hit4.again main)

theorem EW.comp {Fc : Fi} {m : Nat} {caps : List Nat} {elt target iter : Expr} {ifs : List Expr} {scope : Scope} {pos : Pos} {Q : AV → Prop} (ok : CompOk F Fc scope m caps)
    (h : EW B F X n ρ iter fun r => ∃ ds, IterS B n r ds ∧ ∃ f : D → Option D, (∀ d ∈ ds, CW B Fc n m (compStart0 m ρ caps) target ifs elt d (f d)) ∧ (ds.filterMap f).length ≤ sizeLine ∧ Q (.ct .fr (.lst (ds.filterMap f))))
    (hs : ∀ env x, foldedSetIterable iter env x = pure x := by intros; rfl) (hq : B.quiet = true := by assumption) : EW B F X n ρ (.ListComp elt [⟨target, iter, ifs, 0⟩] scope pos) Q := by
  refine .mk ?_
  intro env oa A s R a
  rw [eval_ListComp]
  refine compCore (QQ := fun l => Q (.ct .fr (.lst l))) R a ok h (hs env) (hq := hq) fun l acc C s' q k hc hacc hC hns hne => ?_
  obtain ⟨mm, hm⟩ := hns
  refine ⟨mm, hm, fun h' hs' => ⟨_, q, ?_, acc, rfl, ?_, hacc⟩⟩
  · exact k.ext (t := s'.toks) hC hs'.extBut
  · obtain ⟨oC, es, ep, hoC, hdC, _⟩ := hm
    refine hc.of_same (fun o e _ => (hs'.2 acc hne.symm).trans e) fun b o vs n' e c d => (hs'.2 b fun q => ?_).trans e
    subst q; rw [hoC] at e; cases e; rw [hdC] at d; cases d

end
end Mine
end

section
open PySem PySem.W PyProof.Rows PySem.Calls PyProof
set_option Elab.async false
set_option maxRecDepth 100000
set_option linter.unusedVariables false
namespace Mine
section
variable {B : Bs} {F : Fi} {X : Str → Prop} {n : Nat} {ρ : List (Option Sl)}

noncomputable def Cont.like : Cont → Cont → Prop
  | .lst _, .lst _ => True
  | .dct _, .dct _ => True
  | _, _ => False
theorem ownTurn {env oa} {s : Shared} {a : Addr} {i : Nat} {c c' : Cont} {h' : Heap} {t : Nat} {m : Option Addr} (R : Rp B F env oa ρ s) (hs : ρ[i]? = some (some (.own c m))) (ha : oa i = some a) (hc : ContAt B s.heap a c)
    (hb : Heap.SameBut a s.heap h') (hc' : ContAt B h' a c') (hk : c.like c') :
    Rp B F env oa (ρ.set i (some (.own c' m))) { s with heap := h', toks := t } ∧ KpW B (FW env oa) s { s with heap := h', toks := t } := by
  obtain ⟨o', ho'⟩ := hc'.exists
  have hlt : i < ρ.length := (List.getElem?_eq_some_iff.mp hs).1
  have z := R.upd ha hb ⟨o', ho'⟩ ⟨_, hc⟩ (t := t) (ρ.set i (some (.own c' m))) (fun j x k sl h1 h2 => by
    by_cases e : j = i
    · subst e
      rw [List.getElem?_set_self hlt] at h2; cases h2
      exact .inr ⟨rfl, c, c', m, rfl, hs, hc', by cases c <;> cases c' <;> first | exact hk.elim | exact fun _ x => x⟩
    · rw [List.getElem?_set_ne (Ne.symm e)] at h2
      exact .inl ⟨h2, e⟩)
  refine ⟨z.1, fun b o e nw _ => (hb.2 b fun q => nw (.inr ⟨i, q ▸ ha⟩)).trans e, fun b o e nw => ⟨o.slots, (hb.2 b fun q => nw (.inr ⟨i, q ▸ ha⟩)).trans e⟩, z.2, fun b o e => ?_, rfl, rfl⟩
  by_cases q : b = a
  · subst q
    refine ⟨o', ho', ?_, ?_⟩
    · intro _ vs q
      cases c' with
      | lst l => obtain ⟨o2, _, _, h1, _, h3, _⟩ := hc'; rw [ho'] at h1; cases h1; rw [q] at h3; cases h3
      | dct l => obtain ⟨_, _, ⟨o2, _, _, h1, _, h3, _⟩, _⟩ := hc'; rw [ho'] at h1; cases h1; rw [q] at h3; cases h3
      | rng x y => cases c <;> exact hk.elim
      | exc x => cases c <;> exact hk.elim
      | pair x y => cases c <;> exact hk.elim
    · rintro ⟨es, ep, q⟩
      cases c with
      | lst l => obtain ⟨o2, _, _, h1, _, h3, _⟩ := hc; rw [e] at h1; cases h1; rw [q] at h3; cases h3
      | rng x y => exact hk.elim
      | exc x => exact hk.elim
      | pair x y => exact hk.elim
      | dct l =>
        cases c' with
        | dct l' =>
          obtain ⟨_, _, ⟨o2, es2, ep2, h1, h2, h3, _⟩, _⟩ := hc'; rw [ho'] at h1; cases h1
          obtain ⟨_, _, ⟨o3, _, _, h4, h5, _⟩, _⟩ := hc; rw [e] at h4; cases h4
          exact ⟨h2.1.trans h5.1.symm, es2, ep2, h3⟩
        | _ => exact hk.elim
  · exact ⟨o, (hb.2 b q).trans e, fun x => x, fun x => ⟨rfl, x⟩⟩

theorem SW.append {x : Str} {p apos pos spos : Pos} {e : Expr} {Q : Fl → List (Option Sl) → Prop} {l : List D} {mm : Option Addr} (i : Nat) {k : Kd} (hx : F.vars[i]? = some (x, k)) (hs : ρ[i]? = some (some (.own (.lst l) mm)))
    (h : EW B F X n ρ e fun r => ∃ d, r = .im d ∧ l.length ≤ sizeLine ∧ Q .next (ρ.set i (some (.own (.lst (l ++ [d])) mm))))
    (hline : (apos.endLine == pos.line) = true := by rfl) (htr : ∀ env, backTo pos (starEach [e] env) = [(false, eval e env)] := by intro _; rfl) :
    SW B F X n ρ (.Expr (.Call (.Attribute (.Name x p) "append" apos) [e] [] pos) spos) Q := by
  refine .mk ?_
  intro env oa A s hd R a
  refine wpAny_Expr_any ?_ (by unfold interactive; rw [R.scope, F.fn]; rfl) rfl
  refine wpAny_Call_append rfl (by rw [htr]; rfl) hline (htr env) ?_
  obtain ⟨b, h1, h2, h3, _⟩ := R.slots i x k _ hx hs
  refine loadVar R hx h1 ?_
  obtain ⟨o, vs, m, ho, hc, hdt, hi⟩ := id h2
  refine ⟨b, vs, rfl, ⟨o, m, ho, hc.1, hc.2, hdt⟩, ?_⟩
  refine wpAny_mono (h.go env oa A s R a) (fun v s1 hz1 => ?_) fun _ _ x => x.toW
  obtain ⟨r, ⟨d, hr, hl, q⟩, k1, hv⟩ := hz1
  subst hr
  have R1 := R.kp k1
  have c1 := h2.kp k1 (fun x => x)
  obtain ⟨o, vs, m, ho, hc, hdt, hi⟩ := id c1
  have hlen : vs.size = l.length := by rw [← Array.length_toList]; exact hi.length
  refine list_append_plainL ⟨o, m, ho, hc.1, hc.2, hdt⟩ (fun h' hz2 hs' => ?_) (by rw [hlen]; exact hl)
  obtain ⟨o', m', g1, g2, g3, g4⟩ := hz2
  have hg : Grow s1.heap h' := (R1.upd h3 hs' ⟨o', g1⟩ ⟨_, c1⟩ (t := 0) [] (fun _ _ _ _ _ h => by simp at h)).2
  have c2 : ContAt B h' b (.lst (l ++ [d])) := ⟨o', _, m', g1, ⟨g2, g3⟩, g4, by simpa using (hi.append (.cons hv .nil)).grow hg⟩
  obtain ⟨R2, k2⟩ := ownTurn R1 hs h3 c1 hs' c2 trivial (t := s1.toks)
  exact ⟨.next, _, oa, q, trivial, R2, (Kp.toW k1).trans k2 fun _ x => .inl x, OwnFrom.refl _ _⟩
end
end Mine
end

section
open PySem PySem.W PyProof.Rows PySem.Calls PyProof
set_option Elab.async false
set_option maxRecDepth 100000
set_option linter.unusedVariables false
namespace Mine
section
variable {B : Bs} {F : Fi} {X : Str → Prop} {n : Nat} {ρ : List (Option Sl)}
end
end Mine
end

section
open PySem PySem.W PyProof.Rows PySem.Calls PyProof PySem.SeqAt
set_option Elab.async false
set_option maxRecDepth 100000
set_option linter.unusedVariables false
namespace Mine
section
variable {B : Bs} {F : Fi} {X : Str → Prop} {n : Nat} {ρ : List (Option Sl)}

theorem BuiS.tupleL {m : Md} {l : List D} (h : l.length ≤ sizeLine) : BuiS B n (.type "tuple") [.ct m (.lst l)] (.im (.tup l)) := .one fun env oa A s0 s v E b a x => by
  obtain ⟨a, vs, rfl, h1, h4⟩ := x.lst
  have e : vs.size = l.length := by rw [← Array.length_toList]; exact h4.length
  refine call_tuple_list h1 (fun h' hk => ?_) (by rw [e]; exact h)
  have k : Kp B s { s with heap := h'.push { cls := .type "tuple", data := .seq vs } } := Kp.of (t := s.toks) fun b o q => Heap.get?_push_of_some _ (hk b o q)
  exact ⟨k, Im.tup (Heap.get?_push_size _ rfl) rfl rfl (h4.grow k.tups)⟩
theorem Ims.ints {h : Heap} : ∀ {vs : List Value} {is : List Int}, Ims h vs (is.map .int) → ∃ xs : List (Int × Tok), vs = xs.map (fun p => .int p.1 p.2) ∧ xs.map (·.1) = is
  | _, [], q => by cases q; exact ⟨[], rfl, rfl⟩
  | _, i :: is, q => by
    cases q with
    | cons a r => cases a with
      | int i t => obtain ⟨xs, e1, e2⟩ := Ims.ints r; exact ⟨(i, t) :: xs, by rw [e1]; rfl, by rw [← e2]; rfl⟩
noncomputable def sle (a b : Str) : Bool := !Spec.ltCps b.cps.toList a.cps.toList
noncomputable def srt (l : List Str) : List Str := l.mergeSort sle
theorem sle_total (a b : Str) : (sle a b || sle b a) = true := by
  unfold sle; rw [ltCps_eq, ltCps_eq]
  rcases Nat.lt_or_ge 0 1 with _ | _
  · by_cases h : b.cps.toList < a.cps.toList
    · have : ¬ a.cps.toList < b.cps.toList := List.lt_asymm h
      simp [h, this]
    · simp [h]
  · (first | lia | omega)
theorem sle_trans (a b c : Str) (h : sle a b = true) (h' : sle b c = true) : sle a c = true := by
  unfold sle at *; rw [ltCps_eq] at *
  simp only [Bool.not_eq_true', decide_eq_false_iff_not] at *
  exact fun q => h (List.lt_of_le_of_lt (List.not_lt.mp h') q)
theorem sle_anti {a b : Str} (h : sle a b = true) (h' : sle b a = true) : a = b := by
  unfold sle at *; rw [ltCps_eq] at *
  simp only [Bool.not_eq_true', decide_eq_false_iff_not] at *
  have : a.cps.toList = b.cps.toList := List.le_antisymm (List.not_lt.mp h) (List.not_lt.mp h')
  cases a; cases b; simp at this; simp [this]
theorem srt_sorted (l : List Str) : (srt l).Pairwise fun a b => sle a b = true := List.pairwise_mergeSort sle_trans sle_total l
theorem srt_perm (l : List Str) : (srt l).Perm l := List.mergeSort_perm l _
theorem srt_unique {l m : List Str} (h : m.Perm l) (hs : m.Pairwise fun a b => sle a b = true) : m = srt l :=
  (h.trans (srt_perm l).symm).eq_of_pairwise (fun a b _ _ h1 h2 => sle_anti h1 h2) hs (srt_sorted l)
theorem sortedS_pw : ∀ {l : List Str}, sortedS l = true → l.Pairwise fun a b => sle a b = true := by
  have rise : ∀ (r : List Str) (p : Str), risingS p r = true → (p :: r).Pairwise fun a b => sle a b = true := by
    intro r
    induction r with
    | nil => intro p _; simp
    | cons x r ih =>
      intro p h
      have h1 : sle p x = true ∧ risingS x r = true := by
        simp only [risingS] at h
        simpa [sle] using h
      have := ih x h1.2
      refine List.Pairwise.cons (fun y hy => ?_) this
      rcases List.mem_cons.mp hy with e | e
      · subst e; exact h1.1
      · exact sle_trans _ _ _ h1.1 (List.rel_of_pairwise_cons this e)
  intro l h
  cases l with
  | nil => exact .nil
  | cons x r => exact rise r x h
theorem Ims.strs {h : Heap} : ∀ {vs : List Value} {ss : List Str}, Ims h vs (ss.map .str) → StrsAre vs ss
  | _, [], q => by cases q; exact .nil
  | _, i :: is, q => by
    cases q with
    | cons a r => cases a with
      | str i t => exact .cons _ _ (Ims.strs r)
theorem Ims.ofStrs {h : Heap} : ∀ {vs : List Value} {ss : List Str}, StrsAre vs ss → Ims h vs (ss.map .str)
  | _, _, .nil => .nil
  | _, _, .cons y t r => .cons (.str _ _) (Ims.ofStrs r)
theorem BuiS.sorted {m : Md} {ss : List Str} (h : ss.length < 64) : BuiS B n (.builtin "sorted") [.ct m (.lst (ss.map .str))] (.ct .fr (.lst ((srt ss).map .str))) := .one fun env oa A s0 s v E b a x => by
  obtain ⟨l, vs, rfl, h1, h2⟩ := x.lst
  have hl : vs.toList.length = ss.length := by simpa using h2.length
  refine sorted_strs (vs := vs.toList) (by simpa using h1) h2.strs (by (first | lia | omega)) fun out ss' e1 e2 e3 => ?_
  have hk : Kp B s { s with heap := sortedAll s.heap vs.toList out } := Kp.of (t := s.toks) fun b o q => sortedAll_old q
  obtain ⟨e, he⟩ := sortedAll_at s.heap vs.toList out
  refine ⟨hk, _, rfl, ⟨_, out, e, he, ⟨rfl, rfl⟩, rfl, ?_⟩, ?_⟩
  · rw [← srt_unique e2 (sortedS_pw e3)]
    exact Ims.ofStrs e1
  · cases q : s.heap.get? (s.heap.objs.size + 1) with
    | none => rfl
    | some o => exact absurd (Heap.lt_size q) (Nat.not_lt.mpr (Nat.le_succ _))

theorem CmpS.inInts {m : Md} {is : List Int} {i : Int} : CmpS B n .In (.im (.int i)) (.ct m (.lst (is.map .int))) (is.contains i) := fun env oa A s0 s vx vy E b a x y => by
  obtain ⟨l, vs, rfl, h1, h2⟩ := y.lst
  obtain ⟨t, rfl⟩ := x.int
  obtain ⟨xs, e1, e2⟩ := h2.ints
  refine SeqInW.in_listW (fun v => match v with | .int j _ => j == i | _ => false) (fun y hy => ?_) h1 ⟨?_, Kp.refl _⟩
  · have : y ∈ vs.toList := by simpa using hy
    rw [e1] at this
    obtain ⟨p, _, rfl⟩ := List.mem_map.mp this
    exact PySem.MeetsSeq.EqGives.int _ _ _ _
  · rw [← Array.any_toList, e1, ← e2]
    congr 1
    rw [List.any_map, List.contains_eq_any_beq, List.any_map]
    congr 1; funext p; simp [Bool.beq_comm]
theorem BinS.addL {m m' : Md} {l l' : List D} (h : l.length + l'.length ≤ sizeLine) : BinS B n .Add (.ct m (.lst l)) (.ct m' (.lst l')) (.ct .fr (.lst (l ++ l'))) := fun env oa A s0 s vx vy E b a x y => by
  obtain ⟨p, rfl, ⟨cls, dd, data, sl⟩, vs, k, h1, ⟨h2, _⟩, h3, h4⟩ := x.cont
  obtain ⟨q, rfl, ⟨cls2, dd2, data2, sl2⟩, ws, k2, g1, ⟨g2, _⟩, g3, g4⟩ := y.cont
  simp only at h2 h3 g2 g3
  subst h2 h3 g2 g3
  have e1 : vs.size = l.length := by rw [← Array.length_toList]; exact h4.length
  have e2 : ws.size = l'.length := by rw [← Array.length_toList]; exact g4.length
  refine concat_meets ⟨_, h1, rfl⟩ ⟨_, g1, rfl⟩ noFill_list_add seq_list_add PySem.F.slot_list_add PySem.F.entry_list_add (PySem.F.args_list_add_2 _ _) (list_addW p q vs ws k k2 dd dd2 sl sl2 (by (first | lia | omega))) ⟨h1, g1, ?_⟩
  have kk : Kp B s { s with heap := s.heap.push { cls := .type "list", data := .seq (vs ++ ws) } } := push_kp (t := s.toks) _
  refine ⟨kk, _, rfl, ⟨_, vs ++ ws, _, Heap.get?_push_size _ rfl, ⟨rfl, rfl⟩, rfl, ?_⟩, fresh_size s⟩
  rw [Array.toList_append]
  exact (h4.append g4).grow kk.tups
theorem BinS.addT {l l' : List D} (h : l.length + l'.length ≤ sizeLine) : BinS B n .Add (.im (.tup l)) (.im (.tup l')) (.im (.tup (l ++ l'))) := fun env oa A s0 s vx vy E b a x y => by
  obtain ⟨p, ⟨cls, dd, data, sl⟩, vs, k, rfl, h1, h2, h3, h4⟩ := x.tup
  obtain ⟨q, ⟨cls2, dd2, data2, sl2⟩, ws, k2, rfl, g1, g2, g3, g4⟩ := y.tup
  simp only at h2 h3 g2 g3
  subst h2 h3 g2 g3
  have e1 : vs.size = l.length := by rw [← Array.length_toList]; exact h4.length
  have e2 : ws.size = l'.length := by rw [← Array.length_toList]; exact g4.length
  by_cases hv : vs.isEmpty = true
  · refine concat_meets ⟨_, h1, rfl⟩ ⟨_, g1, rfl⟩ noFill_tuple_add seq_tuple_add PySem.F.slot_tuple_add PySem.F.entry_tuple_add (PySem.F.args_tuple_add_2 _ _) (tuple_addW0 p q vs ws k k2 dd dd2 sl sl2 hv) ⟨h1, g1, Kp.refl _, ?_⟩
    have : l = [] := by rw [Array.isEmpty_iff_size_eq_zero] at hv; exact List.length_eq_zero_iff.mp (by (clear e2 h; (first | lia | omega)))
    subst this; exact Im.tup g1 rfl rfl g4
  · by_cases hw : ws.isEmpty = true
    · refine concat_meets ⟨_, h1, rfl⟩ ⟨_, g1, rfl⟩ noFill_tuple_add seq_tuple_add PySem.F.slot_tuple_add PySem.F.entry_tuple_add (PySem.F.args_tuple_add_2 _ _) (tuple_addW1 p q vs ws k k2 dd dd2 sl sl2 hv hw) ⟨h1, g1, Kp.refl _, ?_⟩
      have : l' = [] := by rw [Array.isEmpty_iff_size_eq_zero] at hw; exact List.length_eq_zero_iff.mp (by (clear hv e1 h; (first | lia | omega)))
      subst this; rw [List.append_nil]; exact Im.tup h1 rfl rfl h4
    · refine concat_meets ⟨_, h1, rfl⟩ ⟨_, g1, rfl⟩ noFill_tuple_add seq_tuple_add PySem.F.slot_tuple_add PySem.F.entry_tuple_add (PySem.F.args_tuple_add_2 _ _) (tuple_addW2 p q vs ws k k2 dd dd2 sl sl2 hv hw (by (clear hw hv; (first | lia | omega)))) ⟨h1, g1, ?_⟩
      have kk : Kp B s { s with heap := s.heap.push { cls := .type "tuple", data := .seq (vs ++ ws) } } := push_kp (t := s.toks) _
      refine ⟨kk, Im.tup (Heap.get?_push_size _ rfl) rfl rfl ?_⟩
      rw [Array.toList_append]
      exact (h4.append g4).grow kk.tups
theorem BinS.mulS {x : Str} {k : Int} (h : MulOk x k) : BinS B n .Mult (.im (.str x)) (.im (.int k)) (.im (.str (Txt.mul x k))) := fun env oa A s0 s vx vy E b a u y => by
  obtain ⟨t, rfl⟩ := u.str
  obtain ⟨t', rfl⟩ := y.int
  exact SB.mul h fun t' k => ⟨Kp.toks, Im.str _ _⟩
noncomputable def D.isNone : D → Bool
  | .none => true
  | _ => false
noncomputable def D.isTrue : D → Bool
  | .bool true => true
  | _ => false
theorem CmpS.isNone (d : D) : CmpS B n .Is (.im d) (.im .none) d.isNone := fun env oa A s0 s vx vy E b a x y => by
  rw [y.none]
  refine PyProof.Rows.is_none_gen ⟨?_, Kp.refl _⟩
  cases x <;> rfl
theorem CmpS.isNoneC (m : Md) (c : Cont) : CmpS B n .Is (.ct m c) (.im .none) false := fun env oa A s0 s vx vy E b a x y => by
  rw [y.none]
  obtain ⟨p, hvw, _⟩ := x.cont; obtain ⟨p, rfl⟩ := hvw.ref
  exact PyProof.Rows.is_none_gen ⟨rfl, Kp.refl _⟩
theorem CmpS.isTrue (d : D) : CmpS B n .Is (.im d) (.im (.bool true)) d.isTrue := fun env oa A s0 s vx vy E b a x y => by
  rw [y.bool]
  cases x with
  | none => exact wpAny_is_plain rfl ⟨rfl, Kp.refl _⟩
  | bool b => cases b <;> exact wpAny_is_plain rfl ⟨rfl, Kp.refl _⟩
  | int i t => exact wpAny_is_plain rfl ⟨rfl, Kp.refl _⟩
  | str i t => exact wpAny_is_plain rfl ⟨rfl, Kp.refl _⟩
  | tup h1 h2 h3 h4 => exact wpAny_is_plain rfl ⟨rfl, Kp.refl _⟩
theorem CmpS.neNil {m m' : Md} {l : List D} : CmpS B n .NotEq (.ct m (.lst l)) (.ct m' (.lst [])) (!l.isEmpty) := fun env oa A s0 s vx vy E b a x y => by
  obtain ⟨p, vs, rfl, h1, h2⟩ := x.lst
  obtain ⟨q, ws, rfl, g1, g2⟩ := y.lst
  have e1 : vs.size = l.length := by rw [← Array.length_toList]; exact h2.length
  have e2 : ws.size = 0 := by rw [← Array.length_toList]; exact g2.length
  cases l with
  | nil =>
    have hz : vs.size = 0 := e1
    refine RcNeAt.lists (e := fun _ => true) h1 g1 (by (first | lia | omega)) a.un (fun j q1 q2 => by (clear e2; (first | lia | omega))) B.prog B.w E _ ?_
    rw [hz]
    exact ⟨rfl, Kp.refl _⟩
  | cons d r =>
    refine RcNeAt.lists_lengths h1 g1 (by simp only [bne_iff_ne, ne_eq]; rw [e1, e2]; simp) a.un B.prog B.w E _ ?_
    exact ⟨rfl, Kp.refl _⟩
theorem CmpS.eqNil {m m' : Md} {l : List D} : CmpS B n .Eq (.ct m (.lst l)) (.ct m' (.lst [])) l.isEmpty := fun env oa A s0 s vx vy E b a x y => by
  obtain ⟨p, vs, rfl, h1, h2⟩ := x.lst
  obtain ⟨q, ws, rfl, g1, g2⟩ := y.lst
  have e1 : vs.size = l.length := by rw [← Array.length_toList]; exact h2.length
  have e2 : ws.size = 0 := by rw [← Array.length_toList]; exact g2.length
  cases l with
  | nil =>
    have hz : vs.size = 0 := e1
    refine eq_listAt (e := fun _ => true) h1 g1 (by (first | lia | omega)) a.un (fun j q1 q2 => by (clear e2; (first | lia | omega))) ?_
    rw [hz]
    exact ⟨rfl, Kp.refl _⟩
  | cons d r =>
    refine eq_list_lengthsAt h1 g1 (by simp only [bne_iff_ne, ne_eq]; rw [e1, e2]; simp) a.un ?_
    exact ⟨rfl, Kp.refl _⟩
end
end Mine
end

section
open PySem PySem.W PyProof.Rows PySem.Calls PyProof
set_option Elab.async false
set_option maxRecDepth 100000
set_option linter.unusedVariables false
namespace Mine
section
variable {B : Bs} {F : Fi} {X : Str → Prop} {n : Nat} {ρ : List (Option Sl)}
theorem BinS.modP {a b : Int} (hb : 0 < b) : BinS B n .Mod (.im (.int a)) (.im (.int b)) (.im (.int (a % b))) := by
  rw [← Int.fmod_eq_emod_of_nonneg a (Int.le_of_lt hb)]; exact BinS.mod (by (first | lia | omega))
theorem BinS.fdivP {a b : Int} (hb : 0 < b) (hp : b.natAbs.log2 < 9000) : BinS B n .FloorDiv (.im (.int a)) (.im (.int b)) (.im (.int (a / b))) := by
  rw [← Int.fdiv_eq_ediv_of_nonneg a (Int.le_of_lt hb)]; exact BinS.fdiv (by (clear hp; (first | lia | omega))) hp

noncomputable def compB (F : Fi) (scope : Scope) (m : Nat) (caps : List Nat) (vars : List (Str × Kd)) : Bool :=
  decide (scope.names.map (·.1)).Nodup && decide (scope.kind = .function) && (scope.names.all fun x => !decide (x.2 = .local) || decide (scope.names.lookup x.1 = some .local)) &&
  (scope.names.all fun x => !decide (x.2 = .free) || (F.vars.any fun y => decide (y.1 = x.1) && !decide (y.2 = .loc))) &&
  ((vars.take m).all fun y => decide (scope.names.lookup y.1 = some y.2.kind) && !decide (y.2 = .fre)) &&
  (((vars.drop m).zip caps).all fun p => decide (scope.names.lookup p.1.1 = some .free) && (F.vars[p.2]?.any fun q => decide (q.1 = p.1.1) && !decide (q.2 = .loc))) &&
  decide ((vars.drop m).length = caps.length)
theorem CompOk.of {Fc : Fi} {scope : Scope} {m : Nat} {caps : List Nat} (h1 : Fc.scope = relabelS scope F.scope) (h2 : Fc.own = m) (h : compB F scope m caps Fc.vars = true) : CompOk F Fc scope m caps := by
  simp only [compB, Bool.and_eq_true, decide_eq_true_eq, List.all_eq_true, Bool.or_eq_true, Bool.not_eq_true', decide_eq_false_iff_not] at h
  obtain ⟨⟨⟨⟨⟨⟨a1, a2⟩, a3⟩, a4⟩, a5⟩, a6⟩, a7⟩ := h
  refine ⟨h1, a1, h2, a2, fun x hx e => ?_, fun x hx e => ?_, fun i x k hi hx => ?_, fun i x k hi hx => ?_⟩
  · exact (a3 x hx).resolve_left fun q => q e
  · have := (a4 x hx).resolve_left fun q => q e
    simp only [List.any_eq_true, Bool.and_eq_true, decide_eq_true_eq, Bool.not_eq_true', decide_eq_false_iff_not] at this
    obtain ⟨y, hy, e1, e2⟩ := this
    obtain ⟨i, hi⟩ := List.mem_iff_getElem?.mp hy
    exact ⟨i, y.2, by rw [hi, ← e1], e2⟩
  · have : (x, k) ∈ Fc.vars.take m := List.mem_iff_getElem?.mpr ⟨i, by rw [List.getElem?_take_of_lt hi]; exact hx⟩
    exact a5 _ this
  · have hd : (Fc.vars.drop m)[i - m]? = some (x, k) := by rw [List.getElem?_drop, show m + (i - m) = i by (clear a7 h2; (first | lia | omega))]; exact hx
    have hlt : i - m < (Fc.vars.drop m).length := (List.getElem?_eq_some_iff.mp hd).1
    have hc : caps[i - m]? = some caps[i - m] := List.getElem?_eq_getElem (by (clear hi h2; (first | lia | omega)))
    have hz : ((x, k), caps[i - m]) ∈ (Fc.vars.drop m).zip caps := List.mem_iff_getElem?.mpr ⟨i - m, by rw [List.getElem?_zip_eq_some]; exact ⟨hd, hc⟩⟩
    obtain ⟨b1, b2⟩ := a6 _ hz
    refine ⟨b1, caps[i - m], ?_⟩
    cases q : F.vars[caps[i - m]]? with
    | none => rw [q] at b2; simp at b2
    | some y =>
      rw [q] at b2
      simp only [Option.any_some, Bool.and_eq_true, decide_eq_true_eq, Bool.not_eq_true', decide_eq_false_iff_not] at b2
      exact ⟨y.2, hc, by rw [← b2.1], b2.2⟩
noncomputable abbrev Fcm (F : Fi) (scope : Scope) (vars : List (Str × Kd)) (m : Nat) (hok : fiOk (relabelS scope F.scope) vars = true) : Fi := ⟨relabelS scope F.scope, vars, m, hok⟩
theorem EW.compV {elt target iter : Expr} {ifs : List Expr} {scope : Scope} {pos : Pos} {Q : AV → Prop} (vars : List (Str × Kd)) (m : Nat) (caps : List Nat) (hok : fiOk (relabelS scope F.scope) vars = true) (hc : compB F scope m caps vars = true)
    (h : EW B F X n ρ iter fun r => ∃ ds, IterS B n r ds ∧ ∃ f : D → Option D, (∀ d ∈ ds, CW B (Fcm F scope vars m hok) n m (compStart0 m ρ caps) target ifs elt d (f d)) ∧ (ds.filterMap f).length ≤ sizeLine ∧ Q (.ct .fr (.lst (ds.filterMap f))))
    (hs : ∀ env x, foldedSetIterable iter env x = pure x := by intros; rfl) (hq : B.quiet = true := by assumption) : EW B F X n ρ (.ListComp elt [⟨target, iter, ifs, 0⟩] scope pos) Q :=
  EW.comp (Fc := Fcm F scope vars m hok) (m := m) (caps := caps) (CompOk.of rfl rfl hc) h hs hq
theorem ifT {P Q : Prop} (h : P) : if true = true then P else Q := by simpa using h
theorem ifF {P Q : Prop} (h : Q) : if false = true then P else Q := by simpa using h
theorem intsFrom_length (a : Int) (k : Nat) : (intsFrom a k).length = k := by
  induction k generalizing a with
  | zero => rfl
  | succ k ih => simp [intsFrom, ih]
noncomputable def bodyOf (p : Program) (i : Nat) : List Stmt :=
  match p.main.body[i]? with
  | some (.FunctionDef _ _ b _ _ _ _ _ _ _) => b
  | _ => []
noncomputable def scopeOf (p : Program) (i : Nat) : Scope :=
  match p.main.body[i]? with
  | some (.FunctionDef _ _ _ _ _ _ s _ _ _) => s
  | _ => p.main.scope
end
end Mine
end

section
open PySem PySem.W PyProof.Rows PySem.Calls PyProof
set_option Elab.async false
set_option maxRecDepth 100000
namespace Mine
theorem bb_len : bootBuiltins "len" = some (.builtin "len") := by decide +kernel
theorem bb_sorted : bootBuiltins "sorted" = some (.builtin "sorted") := by decide +kernel
theorem bb_isinstance : bootBuiltins "isinstance" = some (.builtin "isinstance") := by decide +kernel
theorem bb_list : bootBuiltins "list" = some (.type "list") := by decide +kernel
theorem bb_tuple : bootBuiltins "tuple" = some (.type "tuple") := by decide +kernel
theorem bb_range : bootBuiltins "range" = some (.type "range") := by decide +kernel
theorem bb_int : bootBuiltins "int" = some (.type "int") := by decide +kernel
theorem bb_bool : bootBuiltins "bool" = some (.type "bool") := by decide +kernel
theorem bb_str : bootBuiltins "str" = some (.type "str") := by decide +kernel
section
variable {B : Bs} {F : Fi} {X : Str → Prop} {n : Nat} {ρ : List (Option Sl)}
noncomputable def constStrs : List Expr → Option (List Str)
  | [] => some []
  | .Constant (.str x) _ _ :: es => (constStrs es).map (x :: ·)
  | _ => none
theorem LW.strs : ∀ {es : List Expr} {ss : List Str}, constStrs es = some ss → LW B F X n ρ es fun rs => Dats rs (ss.map .str)
  | [], ss, h => by cases h; exact LW.nil .nil
  | e :: es, ss, h => by
    unfold constStrs at h
    split at h
    · rename_i q; cases q
    · rename_i x k p es' q
      cases q
      cases hq : constStrs es with
      | none => rw [hq] at h; cases h
      | some ss' =>
        rw [hq] at h; cases h
        exact LW.cons (EW.cstr (LW.mono (LW.strs hq) fun rs d => .cons d))
    · cases h
theorem EW.strs {es : List Expr} {pos : Pos} {Q : AV → Prop} (ss : List Str) (h : constStrs es = some ss) (hl : ss.length ≤ sizeLine) (q : Q (.ct .fr (.lst (ss.map .str)))) : EW B F X n ρ (.List es pos) Q :=
  EW.list (LW.mono (LW.strs h) fun rs d => ⟨_, d, by simpa using hl, q⟩)
end
end Mine
end

section
open PySem PySem.W PyProof.Rows PySem.Calls PyProof
set_option Elab.async false
set_option maxRecDepth 100000
set_option linter.unusedVariables false
namespace Mine
noncomputable def recOf (p : Program) (i : Nat) : DefRec :=
  match p.main.body[i]? with
  | some (.FunctionDef n a b _ _ _ s _ _ pos) => ⟨n, a, b, s, pos⟩
  | _ => ⟨"", { posonlyargs := [], args := [], vararg := none, kwonlyargs := [], kw_defaults := [], kwarg := none, defaults := [] }, [], p.main.scope, ⟨0, 0, 0, 0⟩⟩
noncomputable def Bs.ofTop {p : Program} {loose mean mg mb h} (T : Top p loose mean mg mb h) (prog : Program) (w : World) : Bs := ⟨prog, w, h, mg, mb, T.g, T.b, T.builtins, T.nolimit, true⟩
theorem FnAt.ofTop {p : Program} {loose mean mg mb h} (T : Top p loose mean mg mb h) (prog : Program) (w : World) (d : DefRec) {i : Nat} (hd : (recsOf p)[i]? = Option.some d) {f names body scope} (h1 : d.name = f) (h2 : d.body = body) (h3 : d.scope = scope)
    (hb : ∀ pm code doc vs, vs.length = names.length → bindArgs (docDef d.name d.params d.body d.scope pm code doc) ⟨vs, []⟩ = pure (names.zip vs))
    (co : scope.isCoroutine = false) (gen : scope.isGenerator = false) (cells : ((cellsFrom 0 scope.names []).map (·.1)).Nodup) : FnAt (Bs.ofTop T prog w) f names body scope := by
  obtain ⟨a, o, pm, code, doc, e1, e2, e3, e4⟩ := T.fn d (List.mem_of_getElem? hd)
  subst h1 h2 h3
  exact ⟨⟨a, o, _, e1, e2, e3, rfl, rfl, rfl, rfl, rfl, e4, fun vs hv => hb pm code doc vs hv⟩, co, gen, cells⟩
theorem IntsAre.ims {h : Heap} : ∀ {vs : List Value} {is : List Int}, IntsAre vs is → Ims h vs (is.map .int)
  | _, _, .nil => .nil
  | _, _, .cons _ t r => .cons (.int _ t) (IntsAre.ims r)
theorem script {P : Params} {h : Heap} {B : Bs} {a : Addr} {vs : List Value} {is : List Int} {x : WData} (w1 : Well P h (.ref a) x) (hx : ∃ xs, x = .list xs) (hl : h.IsList a vs.toArray) (hi : IntsAre vs is) : ContAt B h a (.lst (is.map .int)) := by
  obtain ⟨xs, rfl⟩ := hx
  cases w1 with
  | list e hw =>
    obtain ⟨o, ho, hc, k, hd⟩ := hl
    rw [e] at ho; cases ho
    exact ⟨_, _, _, e, ⟨rfl, rfl⟩, hd, by simpa using IntsAre.ims hi⟩
theorem post_ok (l : OpenLaw) (args : List WData) : l.row.claim.post args (.bool true) args = true := by
  show (WShape.has [] (.bool true) .bool && WTm.holds [] (.eq .res (.lit (.bool true))) { args := args, res := some (.bool true), after := args }) = true
  rw [Bool.and_eq_true]
  refine ⟨by decide +kernel, ?_⟩
  unfold WTm.holds
  simp only [WTm.value]
  rw [show PySem.W.same (WData.bool true) (WData.bool true) = true by decide +kernel]
theorem ends {l : OpenLaw} {p : Program} {loose mean mg mb} {s₁ : Shared} {w : World} (T : Top p loose mean mg mb s₁.heap) {f : Str} {fa a : Addr} {is : List Int} {cl : Str → Option Addr} {args : List WData} (N : Nat) (hN : N < 690)
    (sp : Spec (Bs.ofTop T l.row.prog w) f NoX N [.ct (.lst (is.map .int))] fun q => q = .im (.bool true)) (hm : mg f = some (.ref fa)) (ha : ContAt (Bs.ofTop T l.row.prog w) s₁.heap a (.lst (is.map .int))) (hg : s₁.gens = #[])
    (hp : l.row.claim.post args (.bool true) args = true) (hr : ∀ cls, l.row.claim.raises args cls = false) :
    wpAny (model l.row.prog w) callerA (call (.ref fa) [.ref a]) (fun v s' => GoodWG l.row.claim cl mean args s₁ (Except.ok (Flow.ret v)) s') (fun e s' => GoodWG l.row.claim cl mean args s₁ (Except.error e) s') s₁ := by
  obtain ⟨fa', o, fd, h1, h2, h3, h4⟩ := sp
  have : fa' = fa := by
    have e : mg f = some (.ref fa') := h1
    rw [hm] at e; cases e; rfl
  subst this
  refine wpAny_call (codeAny_mono (h4 callerA s₁ [.ref a] (fun b o e => e) ⟨?_, ?_, fun _ => rfl, [], rfl, trivial, fun L hL => by cases hL⟩ rfl ?_) fun r s' x => ?_)
  · show 1 + claimMargin + N < recursionLimit
    have : claimMargin = 300 := rfl
    have : recursionLimit = 1000 := rfl
    (first | lia | omega)
  · show 4 + 10 * N < cLine
    have : cLine = 9900 := rfl
    (first | lia | omega)
  · intro i v g e1 e2
    match i, e1, e2 with
    | 0, e1, e2 => cases e1; cases e2; exact ⟨a, rfl, ha⟩
    | i + 1, e1, e2 => simp at e1
  · match r, x with
    | .ok (.ret v), ⟨q, hq, k, hv⟩ =>
      subst hq
      cases hv
      refine ⟨.inl ⟨_, .bool true, [], rfl, hr, .bool true, hp, fun _ => ⟨List.nodup_nil, fun a ha => by cases ha⟩⟩, .of_keep fun b o e => k.keep b o e (fun x => x) (.inr ?_), k.os, .of_eq (k.gens.trans hg)⟩
      show (s₁.heap.get? b).isSome = true
      rw [e]; rfl
    | .ok .next, x => exact x.elim
    | .ok .brk, x => exact x.elim
    | .ok .cont, x => exact x.elim
    | .error e, x => exact x.no.elim
end Mine
end

section
open PySem PySem.W PyProof.Rows PySem.Calls PyProof
set_option Elab.async false
set_option maxRecDepth 100000
set_option linter.unusedVariables false
namespace Mine
section
variable {B : Bs} {F : Fi} {X : Str → Prop} {n : Nat} {ρ : List (Option Sl)}
noncomputable def bmV : List Value := [.type "ValueError", .type "Exception", .type "BaseException", .type "object"]
noncomputable def Own (B : Bs) (c : Str) (C : Addr) : Prop := OwnClsQ c C bmV "ValueError.__new__" B.mg B.hB
theorem Own.ofTop {p : Program} {loose mean mg mb h} (T : Top p loose mean mg mb h) (prog : Program) (w : World) {c : Str} (hs : specOf p c = some ("ValueError.__new__", bmV)) : ∃ C, Own (Bs.ofTop T prog w) c C :=
  by obtain ⟨C, O, _⟩ := T.ownAt hs; exact ⟨C, O⟩
theorem SW.raise_ {x : Str} {np cpos pos p : Pos} {msg : Str} {k} {Q : Fl → List (Option Sl) → Prop} (hk : F.scope.names.lookup x = some .globalImplicit) (hc : ∃ C, Own B x C) (hX : X x)
    (hd : (x == ("__debug__" : Str)) = false := by decide) (hq : B.quiet = true := by assumption) :
    SW B F X n ρ (.Raise (some (.Call (.Name x np) [.Constant (.str msg) k p] [] cpos)) none pos) Q := by
  refine .mk ?_
  intro env oa A s hd' R a
  obtain ⟨C, O⟩ := hc
  have hkf : env.scope.kind = .function := by rw [R.scope]; exact F.fn
  have hx : env.kindOf x = some .globalImplicit := by unfold Env.kindOf; rw [R.scope]; exact hk
  obtain ⟨tl, N, nm, q, bs, hdct, sn, sub, ab, col, dd, k0, k1, k2, k3, k5, mN, hC, hN, hni, T⟩ := O.own.obj
  have FB := PySem.F.excBase_ValueError
  refine wpAny_Raise_call_subU (C := C) (nm := nm) (q := q) (N := N) (bs := bs) (bm := tl) (hdct := hdct) (sn := sn) (sub := sub) (ab := ab) (col := col) (dd := dd) (k0 := k0) (k1 := k1) (k2 := k2) (k3 := k3) (k5 := k5)
    FB (by decide +kernel) FB (mN := mN) (T.hasType FB.hasBase) (a.handled hq) rfl hni ?_
  refine Name_function_global hkf hx (loadGlobal_global (by rw [R.globals]; exact B.g.keeps R.base) O.bound ⟨rfl, ?_⟩) hd
  have lw : LW B F X n ρ [.Constant (.str msg) k p] fun rs => rs.length = 1 := LW.cons (EW.cstr (LW.nil rfl))
  refine Calls.evalArgs_plain (wpAny_mono (lw.go env oa A s cpos R a) (fun vs s2 hz1 => ?_) fun _ _ x => x.toW)
  obtain ⟨rs, h1, k12, h3, _⟩ := hz1
  have R2 := R.kp k12
  refine ⟨rfl, by rw [h3, h1]; decide, R2.base _ _ hC, hN.keeps R2.base, T.keeps R2.base, fun h' e hm => ?_⟩
  obtain ⟨t, ht, _, _⟩ := hm.there
  have k2 : Kp B s2 { s2 with heap := h' } := Kp.of (t := s2.toks) hm.keeps
  refine ⟨x, .ref C, e, hX, O.bound, rfl, (k12.trans k2).toW, k12.fresh hm.new, _, _, ht, rfl, rfl, (show 5 ≤ 6 by decide), .inl rfl⟩
end
end Mine
end

section
open PySem PySem.W PyProof.Rows PySem.Calls PyProof
set_option Elab.async false
set_option maxRecDepth 100000
set_option linter.unusedVariables false
namespace Mine
section
variable {prog : Program} {w : World} {A : Around} {E : Value → Shared → Prop} {h : Heap} {g : Array GenState} {d : Drawn} {t : Nat} {os : OsState} {a C : Addr} {o : Obj} {vs : Array Value} {K : Frag}
structure XC (K : Frag) (C : Addr) : Prop where
  ga : findIn K (.ref C) "__getattribute__" = some (some (.builtin "BaseException.__getattribute__"))
  gt : findIn K (.ref C) "__getattr__" = some none
  cl : findIn K (.ref C) "__class__" = some (some (.builtin "object.__class__"))
  be : mroIn K C (.type "BaseException") = some true
  ob : mroIn K C (.type "object") = some true
  ve : mroIn K C (.type "ValueError") = some true
  so : (clsIn K C).isSome = true
  ins : instIn K (.ref C) (.type "type") = some true
  ty : typeIn K (.ref C) = some (.type "type")
theorem class_get_exc {R : Result → Shared → Prop} (X : K.In h) (x : XC K C) (hx : h.get? a = some o) (hc : o.cls = .ref C) (hq : R (.ok (.ret (.ref C))) ⟨h, g, d, t, os⟩) :
    codeAny (model prog w) A (.call (.builtin "getset_descriptor.__get__") ⟨[.builtin "object.__class__", .ref a, .ref C], []⟩) R ⟨h, g, d, t, os⟩ := by
  have hT5 : (⟨h, g, d, t, os⟩ : Shared).TypeIs (.builtin "object.__class__") "getset_descriptor" := PySem.F.typeOf_object_class
  have L4 : Looks (model prog w) h (isSubtype (.ref C) (.type (".".intercalate ("object.__class__".cutAt '.').dropLast))) true := by rw [PySem.F.owner_object_class]; exact looks_mroIn X x.ob
  refine codeAny_call_builtin PySem.F.slot_gs_get.plain PySem.F.entry_gs_get (PySem.F.slot_gs_get.check _ _ _ _ _ _ _ _ hT5 (PySem.F.args_gs_get _ _ _) ?_)
  repeat (any_goals (first | assumption | (with_reducible refine wpAny_loadPart_at hx ?_; rw [hc]) | with_reducible refine L4.at ?_ | wp_step))
  refine ⟨Code.quiet_builtin _ (by decide +kernel), codeAny_builtin PySem.F.entry_object_class ?_⟩
  repeat (any_goals (first | assumption | (with_reducible refine wpAny_loadPart_at hx ?_; rw [hc]) | wp_step))
theorem check_ga_exc {nameV : Value} {Q : Unit → Shared → Prop} (X : K.In h) (x : XC K C) (hx : h.get? a = some o) (hc : o.cls = .ref C) (hq : Q () ⟨h, g, d, t, os⟩) : wpAny (model prog w) A (checkBuiltinCall "BaseException.__getattribute__" ⟨[.ref a, nameV], []⟩) Q E ⟨h, g, d, t, os⟩ := by
  have hk : builtinKind "BaseException.__getattribute__" = some .slot := by decide +kernel
  have hsplit : splitId "BaseException.__getattribute__" = some ("BaseException", "__getattribute__") := by decide +kernel
  have L4 : Looks (model prog w) h (isSubtype (.ref C) (.type "BaseException")) true := looks_mroIn X x.be
  have ha := PySem.F.args_bexc_ga (.ref a) nameV
  simp only [checkBuiltinCall, hk, hsplit]
  refine wpAny_bind ?_
  · unfold isInstance
    repeat (first | (with_reducible refine wpAny_loadPart_at hx ?_; rw [hc]) | with_reducible refine L4.at ?_ | wp_step)
    exact hq
theorem class_entry_exc {tk : Tok} {Q : Fin → Shared → Prop} (X : K.In h) (x : XC K C) (hx : h.get? a = some o) (hc : o.cls = .ref C) (hq : Q (.done (.ret (.ref C))) ⟨h, g, d, t, os⟩) :
    wpAny (model prog w) A (Builtin.«object.__getattribute__» ⟨[.ref a, .str "__class__" tk], []⟩) Q E ⟨h, g, d, t, os⟩ := by
  have hT5 : (⟨h, g, d, t, os⟩ : Shared).TypeIs (.builtin "object.__class__") "getset_descriptor" := PySem.F.typeOf_object_class
  have f5 := PySem.F.typeOf_object_class
  have f6 := PySem.F.slot_gs_get.lookup
  have f7 := PySem.F.slot_gs_set.lookup
  have L : Looks (model prog w) h (typeLookup (.ref C) "__class__") (some (.builtin "object.__class__")) := looks_findIn X x.cl
  repeat (any_goals (first | assumption | (with_reducible refine wpAny_loadPart_at hx ?_; rw [hc]) | with_reducible refine L.at ?_ | wp_step))
  refine class_get_exc X x hx hc ?_
  repeat (any_goals (first | assumption | wp_step))
theorem class_by_exc {tk : Tok} {fill expr : Bool} {Q : Value → Shared → Prop} (X : K.In h) (x : XC K C) (hx : h.get? a = some o) (hc : o.cls = .ref C) (hq : Q (.ref C) ⟨h, g, d, t, os⟩) :
    wpAny (model prog w) A (getAttrBy (.ref a) (.str "__class__" tk) fill expr) Q E ⟨h, g, d, t, os⟩ := by
  have f3 := PySem.F.attr_ValueError.ga.bind (.ref a)
  have hx0 : (expr && onTheHeap (Value.builtin "BaseException.__getattribute__")) = false := by cases expr <;> rfl
  have hx2 : (Value.builtin "BaseException.__getattribute__" == Value.builtin "object.__getattribute__") = false := by decide +kernel
  have hx1 : (onTheHeap (Value.ref C) && Value.builtin "BaseException.__getattribute__" == Value.builtin "object.__getattribute__") = false := by rw [hx2]; rfl
  have L1 : Looks (model prog w) h (typeLookup (.ref C) "__getattribute__") _ := looks_findIn X x.ga
  have L2 : Looks (model prog w) h (typeLookup (.ref C) "__getattr__") _ := looks_findIn X x.gt
  repeat (any_goals (first | assumption | (with_reducible refine wpAny_loadPart_at hx ?_; rw [hc]) | with_reducible refine L1.at ?_ | with_reducible refine L2.at ?_ | wp_step))
  refine codeAny_call_builtin PySem.F.attr_ValueError.ga.plain PySem.F.entry_bexc_ga (check_ga_exc X x hx hc (class_entry_exc X x hx hc ?_))
  repeat (any_goals (first | assumption | wp_step))
theorem class_attr_exc {Q : Option Value → Shared → Prop} (X : K.In h) (x : XC K C) (hx : h.get? a = some o) (hc : o.cls = .ref C) (hq : Q (some (.ref C)) ⟨h, g, d, t + 1, os⟩) : wpAny (model prog w) A (getAttr? (.ref a) "__class__") Q E ⟨h, g, d, t, os⟩ := by
  unfold getAttr? getAttrBy?
  repeat (any_goals (first | assumption | with_reducible apply class_by_exc X x hx hc | wp_step))

noncomputable def XNot (K : Frag) (C D : Addr) : Bool := (clsIn K D).isSome && typeIn K (.ref D) == some (.type "type") && instIn K (.ref D) (.type "type") == some true && mroIn K C (.ref D) == some false && !(C == D)
theorem isn_nested_exc {D : Addr} {dep : Int} {tk : Tok} {Q : Fin → Shared → Prop} {s : Shared} (X : K.In s.heap) (x : XC K C) (e : XNot K C D = true) (p : ∃ o, s.heap.get? a = some o ∧ o.cls = .ref C) (hq : Q (.done (.ret (.bool false))) { s with toks := s.toks + 1 }) :
    wpAny (model prog w) A (Builtin.«isinstance.nested» ⟨[.ref a, .ref D, .int dep tk], []⟩) Q E s := by
  obtain ⟨hh, g, d, tt, os⟩ := s
  obtain ⟨o, hx, hc⟩ := p
  have ht : Looks (model prog w) hh (typeOf (.ref a)) (.ref C) := (Looks.ld hx).andThen (by rw [hc]; exact .now)
  unfold Builtin.«isinstance.nested»
  refine wpAny_bind (ht.at ?_)
  unfold XNot at e
  rw [Bool.and_eq_true, Bool.and_eq_true, Bool.and_eq_true, Bool.and_eq_true] at e
  obtain ⟨⟨⟨⟨e0, e1⟩, e2⟩, e3⟩, e4⟩ := e
  rw [if_neg (fun q => by have := beq_iff_eq.mp q; cases this; simp at e4)]
  have L1 := looks_typeIn (M := model prog w) X (beq_iff_eq.mp e1)
  have L2 := looks_instIn (M := model prog w) X (beq_iff_eq.mp e2)
  have L4 : Looks (model prog w) hh (isSubtype (.ref C) (.ref D)) false := looks_mroIn X (beq_iff_eq.mp e3)
  have L3 : Looks (model prog w) hh (isInstance (.ref a) (.ref D)) false := ht.andThen L4
  refine wpAny_bind (L1.at ?_)
  rw [if_pos (by decide)]
  k_delta "plainIsInstance"
  unfold isType
  repeat lk
  unfold clsIn at e0
  split at e0
  · rename_i ho
    refine nd_load (X _ _ ho) (nd_pure (wpAny_pure ?_))
    simp only [Bool.not_true, Bool.false_eq_true, if_false]
    refine wpAny_bind (L3.at ?_)
    simp only [Bool.false_eq_true, if_false]
    refine wpAny_bind (class_attr_exc X x hx hc ?_)
    have L5 := looks_instIn (M := model prog w) X x.ins
    have e6 := x.so
    unfold clsIn at e6
    split at e6
    · rename_i ho2
      refine wpAny_bind ?_
      repeat lk
      refine nd_load (X _ _ ho2) (nd_pure (wpAny_pure ?_))
      simp only [Bool.not_true, Bool.false_eq_true, if_false]
      refine wpAny_bind (wpAny_rule ?_)
      refine L4.at ?_
      exact wpAny_pure hq
    · cases e6
  · cases e0
theorem isi_exc_not {D : Addr} {Q : Value → Shared → Prop} {s : Shared} (X : K.In s.heap) (x : XC K C) (e : XNot K C D = true) (p : ∃ o, s.heap.get? a = some o ∧ o.cls = .ref C) (hq : Q (.bool false) { s with toks := s.toks + 1 }) :
    wpAny (model prog w) A (call (.builtin "isinstance") [.ref a, .ref D]) Q E s :=
  call_isinstance (S := fun _ R s => (K.In s.heap ∧ ∃ o, s.heap.get? a = some o ∧ o.cls = .ref C) ∧ R (.ok (.ret (.bool false))) { s with toks := s.toks + 1 })
    (fun _ _ _ _ _ hs => isinstance_outer (isn_nested_exc hs.1.1 x e hs.1.2 hs.2) (by intro q; cases q)) ⟨⟨X, p⟩, hq⟩
theorem isi_exc_self {Q : Value → Shared → Prop} {s : Shared} (X : K.In s.heap) (p : ∃ o, s.heap.get? a = some o ∧ o.cls = .ref C) (hq : Q (.bool true) s) :
    wpAny (model prog w) A (call (.builtin "isinstance") [.ref a, .ref C]) Q E s :=
  isi_call X (t := .ref C) (fun M => by obtain ⟨o, hx, hc⟩ := p; exact (Looks.ld hx).andThen (by rw [hc]; exact .now)) (by simp [isIn]) (by intro q; cases q) hq
theorem isi_nested_base {dep : Int} {tk : Tok} {Q : Fin → Shared → Prop} {s : Shared} (X : K.In s.heap) (x : XC K C) (p : ∃ o, s.heap.get? a = some o ∧ o.cls = .ref C) (hq : Q (.done (.ret (.bool true))) s) :
    wpAny (model prog w) A (Builtin.«isinstance.nested» ⟨[.ref a, .type "ValueError", .int dep tk], []⟩) Q E s := by
  obtain ⟨hh, g, d, tt, os⟩ := s
  obtain ⟨o, hx, hc⟩ := p
  have ht : Looks (model prog w) hh (typeOf (.ref a)) (.ref C) := (Looks.ld hx).andThen (by rw [hc]; exact .now)
  unfold Builtin.«isinstance.nested»
  refine wpAny_bind (ht.at ?_)
  rw [if_neg (fun q => by have := beq_iff_eq.mp q; cases this)]
  have L4 : Looks (model prog w) hh (isSubtype (.ref C) (.type "ValueError")) true := looks_mroIn X x.ve
  have L3 : Looks (model prog w) hh (isInstance (.ref a) (.type "ValueError")) true := ht.andThen L4
  have L1 : Looks (model prog w) hh (typeOf (.type "ValueError")) (.type "type") := Looks.of_pure (by kernel_rfl)
  refine wpAny_bind (L1.at ?_)
  rw [if_pos (by decide)]
  k_delta "plainIsInstance"
  refine wpAny_bind ?_
  refine wpAny_bind (wpAny_pure ?_)
  simp only [Bool.not_true, Bool.false_eq_true, if_false]
  refine wpAny_bind (L3.at ?_)
  simp only [if_true]
  exact wpAny_pure (wpAny_pure hq)
theorem isi_exc_base {Q : Value → Shared → Prop} {s : Shared} (X : K.In s.heap) (x : XC K C) (p : ∃ o, s.heap.get? a = some o ∧ o.cls = .ref C) (hq : Q (.bool true) s) :
    wpAny (model prog w) A (call (.builtin "isinstance") [.ref a, .type "ValueError"]) Q E s :=
  call_isinstance (S := fun _ R s => (K.In s.heap ∧ ∃ o, s.heap.get? a = some o ∧ o.cls = .ref C) ∧ R (.ok (.ret (.bool true))) s)
    (fun _ _ _ _ _ hs => isinstance_outer (isi_nested_base hs.1.1 x hs.1.2 hs.2) (by intro q; cases q)) ⟨⟨X, p⟩, hq⟩
theorem excMatches_sub {S : Addr} {Q : Bool → Shared → Prop} {s : Shared} (X : K.In s.heap) (x : XC K S) (e : mroIn K C (.ref S) = some true) (p : ∃ o, s.heap.get? a = some o ∧ o.cls = .ref C) (hq : Q true s) :
    wpAny (model prog w) A (excMatches (.ref a) (.ref S)) Q E s := by
  obtain ⟨hh, g, d, tt, os⟩ := s
  obtain ⟨o, hx, hc⟩ := p
  have L1 : Looks (model prog w) hh (isSubtype (.ref C) (.ref S)) true := looks_mroIn X e
  have L2 : Looks (model prog w) hh (isSubtype (.ref S) (.type "BaseException")) true := looks_mroIn X x.be
  have f := tc_notTuple
  have e6 := x.so
  have ty := x.ty
  unfold clsIn at e6
  split at e6
  · rename_i c0 dd cd sl ho2
    have hS : hh.get? S = some ⟨c0, dd, .cls cd, sl⟩ := X _ _ ho2
    have ty' : (K.lookup S).map (·.cls) = some (.type "type") := ty
    have hc0 : c0 = .type "type" := by rw [ho2] at ty'; simpa using ty'
    subst hc0
    unfold excMatches
    repeat (first | (with_reducible refine wpAny_loadPart_at hx ?_; rw [hc]) | with_reducible refine wpAny_loadPart_at hS ?_ | with_reducible refine L1.at ?_ | with_reducible refine L2.at ?_ | wp_step)
    exact hq
  · cases e6
end
end Mine
end

section
open PySem PySem.W PyProof.Rows PySem.Calls PyProof
set_option Elab.async false
set_option maxRecDepth 100000
set_option linter.unusedVariables false
namespace Mine
theorem dropName_cls (name : Str) (o : Obj) : (Obj.dropName name o).cls = o.cls := by
  obtain ⟨c, d, dt, sl⟩ := o
  cases dt <;> simp only [Obj.dropName] <;> (try split) <;> rfl
theorem dropName_free {name : Str} {o : Obj} {es ep} (hd : o.data = .dict es ep) : (Obj.dropName name o).isFreed = false := by
  obtain ⟨c, d, dt, sl⟩ := o
  subst hd
  simp only [Obj.dropName] <;> (try split) <;> rfl
open Sem in
theorem nsDel_cls {M : Model} {A : Around} {E : Value → Shared → Prop} {s : Shared} {a : Addr} {m : Str → Option Value} {name : Str} {o : Obj} {Q : Bool → Shared → Prop} (hn : s.heap.Ns a m) (ho : s.heap.get? a = some o)
    (h : ∀ h' v o', h'.Ns a (fun x => if x = name then v else m x) → Heap.SameBut a s.heap h' → h'.get? a = some o' → o'.cls = o.cls → Q (m name).isSome { s with heap := h' }) :
    wpAny M A (nsDel a name) Q E s := by
  intro Γ p hΓ
  have h1 := wpAny_nsDel_keeps (M := M) (A := A) (E := E) (name := name) (Q := fun b s' => b = (m name).isSome ∧ ∃ h' v, h'.Ns a (fun x => if x = name then v else m x) ∧ Heap.SameBut a s.heap h' ∧ s' = { s with heap := h' }) hn (fun h' v x y => ⟨rfl, h', v, x, y, rfl⟩) Γ p hΓ
  obtain ⟨o1, es, ep, ho1, hd, hk, hm⟩ := id hn
  obtain rfl : o1 = o := Option.some.inj (ho1.symm.trans ho)
  have hany : es.any (·.refKey) = false := by
    rw [Array.any_eq_false']; intro e he; obtain ⟨n, t, h⟩ := hk e he; simp [DictEntry.refKey, h]
  have hhas : nsHas name o1 = Pure.pure (es.any (·.key.isStr name)) := by
    rw [nsHas_eq]; unfold nsHasByArray; rw [hd]
    show (if (es.any fun x => x.key.isStr name) = true then _ else _) = _
    generalize (es.any fun x => x.key.isStr name) = b
    cases b <;> simp [hany]
  simp only [nsDel, wp_bind'] at h1 ⊢
  rw [wp_loadPart_of M Γ _ p s (o := o1) _ ho] at h1 ⊢
  rw [hhas] at h1 ⊢
  simp only [wp_pure'] at h1 ⊢
  generalize (es.any fun x => x.key.isStr name) = b at h1 ⊢
  cases b with
  | false =>
    simp only [Bool.false_eq_true, if_false, wp_pure'] at h1 ⊢
    obtain ⟨e, h', v, x, y, e'⟩ := h1
    have eh : s.heap = h' := congrArg Shared.heap e'
    subst eh
    rw [e]
    exact h _ v o1 x y ho rfl
  | true =>
    simp only [if_true, wp_bind', wp_cmd_updatePart, wp_pure'] at h1 ⊢
    obtain ⟨hs, e, h', v, x, y, e'⟩ := h1
    refine ⟨hs, ?_⟩
    have eh : s.heap.update a (Obj.dropName name) = h' := congrArg Shared.heap e'
    rw [e, eh]
    obtain ⟨o2, es2, ep2, ho2, hd2, r⟩ := id x
    refine h h' v o2 x y ho2 ?_
    have := Heap.get?_update_self (Obj.dropName name) ho (dropName_free hd)
    rw [eh, ho2] at this
    cases this
    exact dropName_cls ..
section
variable {B : Bs} {F : Fi} {X : Str → Prop} {n : Nat} {ρ : List (Option Sl)}
theorem unbindVar {env oa A} {s : Shared} {i : Nat} {x : Str} {pos : Pos} {E : Value → Shared → Prop} {v : Value} (R : Rp B F env oa ρ s) (hx : F.vars[i]? = some (x, .loc)) (hv : VarAt env s.heap x .loc v) :
    wpAny (model B.prog B.w) A (unbindBehindTheSuite env x pos) (fun _ s' => Rp B F env oa [] s' ∧ KpW B (Priv env) s s') E s := by
  have hk : env.scope.kind = .function := by rw [R.scope]; exact F.fn
  have hl : env.kindOf x = some .local := by unfold Env.kindOf; rw [R.scope]; exact (F.at hx).1
  obtain ⟨m, hn, hm⟩ := hv
  obtain ⟨oL, hoL⟩ : ∃ o, s.heap.get? env.locals = some o := by obtain ⟨o, _, _, ho, _⟩ := hn; exact ⟨o, ho⟩
  unfold unbindBehindTheSuite
  refine wpAny_onRaise ?_
  unfold unbindName
  refine wpAny_bind (wpAny_point (wpAny_bind ?_))
  unfold deleteName
  have hp : (env.scope.kind == .class || (env.scope.kind == .module && env.locals != env.globals)) = false := by rw [hk]; rfl
  simp only [hl, hp]
  rw [if_neg (by decide)]
  refine wpAny_bind (nsDel_cls hn hoL fun h' v' oL' hn' hs' hoL' hcL => ?_)
  simp only [hm, Option.isSome_some, Bool.not_true, Bool.false_eq_true, if_false]
  refine wpAny_pure (wpAny_point ?_)
  have hb : B.hB.get? env.locals = none := R.privNew _ (.inl rfl)
  have kw : KpW B (Priv env) s { s with heap := h' } := by
    refine ⟨fun b o e nw _ => (hs'.2 b (fun q => nw (.inl q))).trans e, fun b o e nw => ⟨o.slots, (hs'.2 b (fun q => nw (.inl q))).trans e⟩, fun b o vs k e c d => (hs'.2 b fun q => ?_).trans e, fun b o e => ?_, rfl, rfl⟩
    · subst q
      obtain ⟨o2, es, ep, ho2, hd2, _⟩ := hn
      rw [e] at ho2; cases ho2; rw [d] at hd2; cases hd2
    · by_cases q : b = env.locals
      · subst q
        rw [hoL] at e; cases e
        obtain ⟨o2, es, ep, ho2, hd2, _⟩ := hn'
        rw [hoL'] at ho2; cases ho2
        exact ⟨oL', hoL', (fun _ vs q => by rw [hd2] at q; cases q), fun _ => ⟨hcL, es, ep, hd2⟩⟩
      · exact ⟨o, (hs'.2 b q).trans e, fun x => x, fun x => ⟨rfl, x⟩⟩
  refine ⟨⟨fun b o e => (hs'.2 b (fun q => by subst q; rw [hb] at e; cases e)).trans (R.base b o e), R.scope, R.globals, R.builtins, ⟨_, hn'⟩, ?_, R.apart, R.locCell, ?_, R.privNew, fun i x k sl h1 h2 => by simp at h2, R.oinj, ?_⟩, kw⟩
  · intro j y k' hy hne
    obtain ⟨c, u, hc, hcell, hw⟩ := R.cells j y k' hy hne
    exact ⟨c, u, hc, hcell.sameBut hs' (R.locCell y c (mem_of_lookup hc)), hw⟩
  · intro y c hm
    obtain ⟨u, hu⟩ := R.cellsLive y c hm
    exact ⟨u, hu.sameBut hs' (R.locCell y c hm)⟩
  · intro j b h
    obtain ⟨h1, h2, o, ho⟩ := R.opriv j b h
    exact ⟨h1, h2, by obtain ⟨o', ho', _⟩ := kw.live b o ho; exact ⟨o', ho'⟩⟩
end
end Mine
end

section
open PySem PySem.W PyProof.Rows PySem.Calls PyProof
set_option Elab.async false
set_option maxRecDepth 100000
set_option linter.unusedVariables false
namespace Mine
section
variable {B : Bs} {F : Fi} {X : Str → Prop} {n : Nat} {ρ : List (Option Sl)}
noncomputable def Bs.loud (B : Bs) : Bs := { B with quiet := false }
theorem ContAt.loud {h : Heap} {a : Addr} {c : Cont} (x : ContAt B h a c) : ContAt B.loud h a c := by
  cases c <;> exact x
theorem ContAt.unloud {h : Heap} {a : Addr} {c : Cont} (x : ContAt B.loud h a c) : ContAt B h a c := by
  cases c <;> exact x
theorem Rp.loud {env oa} {s : Shared} (R : Rp B F env oa ρ s) : Rp B.loud F env oa ρ s :=
  ⟨R.base, R.scope, R.globals, R.builtins, R.ns, R.cells, R.apart, R.locCell, R.cellsLive, R.privNew, fun i x k sl h1 h2 => by
    have z := R.slots i x k sl h1 h2
    cases sl with
    | im d => exact z
    | fz c => (obtain ⟨a, h1, h2, h3⟩ := z; exact ⟨a, h1, h2.loud, h3⟩)
    | own c => (obtain ⟨a, h1, h2, h3⟩ := z; exact ⟨a, h1, h2.loud, h3⟩), R.oinj, R.opriv⟩
theorem Rp.unloud {env oa} {s : Shared} (R : Rp B.loud F env oa ρ s) : Rp B F env oa ρ s :=
  ⟨R.base, R.scope, R.globals, R.builtins, R.ns, R.cells, R.apart, R.locCell, R.cellsLive, R.privNew, fun i x k sl h1 h2 => by
    have z := R.slots i x k sl h1 h2
    cases sl with
    | im d => exact z
    | fz c => (obtain ⟨a, h1, h2, h3⟩ := z; exact ⟨a, h1, h2.unloud, h3⟩)
    | own c => (obtain ⟨a, h1, h2, h3⟩ := z; exact ⟨a, h1, h2.unloud, h3⟩), R.oinj, R.opriv⟩
theorem KpW.unloud {W} {s s' : Shared} (k : KpW B.loud W s s') : KpW B W s s' := ⟨k.keep, k.data, k.tups, k.live, k.gens, k.os⟩
theorem Ar.loud {A : Around} {s : Shared} (a : Ar B A n s) (v : Value) : Ar B.loud (A.mark (some v)) n s :=
  ⟨a.depth, a.units, (fun q => by cases q), a.frames⟩
end
end Mine
end

section
open PySem PySem.W PyProof.Rows PySem.Calls PyProof PySem.SeqAt
set_option Elab.async false
set_option maxRecDepth 100000
set_option linter.unusedVariables false
namespace Mine
section
variable {B : Bs} {F : Fi} {X : Str → Prop} {n : Nat} {ρ : List (Option Sl)}
noncomputable def IsiC (B : Bs) (n : Nat) (x : AV) (C : Addr) (r : Bool) : Prop :=
  ∀ env oa A s0 s v (E : Value → Shared → Prop), Bas B s → Ar B A n s → VR B env oa s0 s v x → wpAny (model B.prog B.w) A (PySem.call (.builtin "isinstance") [v, .ref C]) (fun v s' => v = .bool r ∧ Kp B s s') E s
theorem EW.isiC {p1 p2 : Pos} {e : Expr} {c : Str} {pos : Pos} {Q : AV → Prop} {C : Addr} (hk : F.scope.names.lookup (Str.ofString "isinstance") = some .globalImplicit) (hm : B.mg (Str.ofString "isinstance") = none)
    (hk2 : F.scope.names.lookup c = some .globalImplicit) (hC : B.mg c = some (.ref C))
    (h : EW B F X n ρ e fun x => ∃ r, IsiC B n x C r ∧ Q (.im (.bool r)))
    (he : ∀ env, starEach (e :: [.Name c p2]) env = (false, eval e env) :: starEach [.Name c p2] env := by intro _; rfl) (hd2 : (c == ("__debug__" : Str)) = false := by decide) :
    EW B F X n ρ (.Call (.Name "isinstance" p1) [e, .Name c p2] [] pos) Q := by
  refine .mk ?_
  intro env oa A s R a
  refine wpAny_Call_ofName (loadBuiltin R hk hm bb_isinstance ?_)
  refine callWith_builtin1 ?_ (he env)
  refine wpAny_items_cons (h.run R a (Kp.refl _) fun v s1 r hz1 k1 x1 => ?_) (he env)
  obtain ⟨b, hi, q⟩ := hz1
  have R1 := R.kp k1
  have hkf : env.scope.kind = .function := by rw [R.scope]; exact F.fn
  have hx : env.kindOf c = some .globalImplicit := by unfold Env.kindOf; rw [R.scope]; exact hk2
  refine wpAny_items_cons (Name_function_global hkf hx (loadGlobal_global (by rw [R.globals]; exact B.g.keeps R1.base) hC (wpAny_items_nil ?_)) hd2)
  exact wpAny_mono (hi env oa A s s1 v _ R1.base (a.kp k1) x1) (fun v s2 hz2 => by obtain ⟨e, k2⟩ := hz2; subst e; exact ⟨_, q, k1.trans k2, Im.bool _⟩) fun _ _ x => x
theorem VR.exc {env oa} {s s' : Shared} {v : Value} {m : Md} {c : Str} {C : Addr} (x : VR B env oa s s' v (.ct m (.exc c))) (hC : B.mg c = some (.ref C)) : ∃ a, v = .ref a ∧ ∃ o, s'.heap.get? a = some o ∧ o.cls = .ref C := by
  obtain ⟨a, rfl, o, C', vs, ho, hm, hc, hd⟩ := x.cont
  rw [hC] at hm; cases hm
  exact ⟨a, rfl, o, ho, hc⟩
theorem IsiC.self {m : Md} {c : Str} {C : Addr} {K : Frag} (X0 : K.In B.hB) (hC : B.mg c = some (.ref C)) : IsiC B n (.ct m (.exc c)) C true := fun env oa A s0 s v E b a x => by
  obtain ⟨p, rfl, h⟩ := x.exc hC
  exact isi_exc_self (K := K) (X0.keeps b) h ⟨rfl, Kp.refl _⟩
theorem IsiC.not {m : Md} {c : Str} {C D : Addr} {K : Frag} (X0 : K.In B.hB) (hC : B.mg c = some (.ref C)) (x0 : XC K C) (hn : XNot K C D = true) : IsiC B n (.ct m (.exc c)) D false := fun env oa A s0 s v E b a x => by
  obtain ⟨p, rfl, h⟩ := x.exc hC
  exact isi_exc_not (K := K) (X0.keeps b) x0 hn h ⟨rfl, Kp.toks⟩
theorem IsiS.excV {m : Md} {c : Str} {C : Addr} {K : Frag} (X0 : K.In B.hB) (hC : B.mg c = some (.ref C)) (x0 : XC K C) : IsiS B n (.ct m (.exc c)) "ValueError" true := fun env oa A s0 s v E b a x => by
  obtain ⟨p, rfl, h⟩ := x.exc hC
  exact isi_exc_base (K := K) (X0.keeps b) x0 h ⟨rfl, Kp.refl _⟩
theorem bb_ValueError : bootBuiltins "ValueError" = some (.type "ValueError") := by decide +kernel

theorem StrsAre.values : ∀ {vs : List Value} {ss : List Str}, StrsAre vs ss → ∃ l : List (Str × Tok), vs = strValues l ∧ l.map (·.1) = ss
  | _, _, .nil => ⟨[], rfl, rfl⟩
  | _, _, .cons y t r => by obtain ⟨l, e1, e2⟩ := StrsAre.values r; exact ⟨(y, t) :: l, by rw [e1]; rfl, by rw [← e2]; rfl⟩
theorem EW.join {o e : Expr} {apos pos : Pos} {Q : AV → Prop}
    (h : EW B F X n ρ o fun x => ∃ sep, x = .im (.str sep) ∧ EW B F X n ρ e fun y => ∃ m ss, y = .ct m (.lst (ss.map .str)) ∧ JoinOk sep ss = true ∧ Q (.im (.str (Txt.join sep ss))))
    (hline : (apos.endLine == pos.line) = true := by rfl) (hb : ∀ env, attributeBase o "join" env (eval o env) = eval o env := by intro _; rfl)
    (htr : ∀ env, backTo pos (starEach [e] env) = [(false, eval e env)] := by intro _; rfl) :
    EW B F X n ρ (.Call (.Attribute o "join" apos) [e] [] pos) Q := by
  refine .mk ?_
  intro env oa A s R a
  refine wpAny_Call_method_lateS (hb env) (by rw [htr]; rfl) hline (h.run R a (Kp.refl _) fun v0 s0 r hz3 k0 x0 => ?_)
  obtain ⟨sep, hr, he⟩ := hz3
  subst hr
  obtain ⟨t, rfl⟩ := x0.str
  rw [htr]
  refine SB.join (he.run (R.kp k0) (a.kp k0) k0 fun v1 s1 r1 hz4 k1 x1 => ?_)
  obtain ⟨m, ss, hr1, hok, q⟩ := hz4
  subst hr1
  obtain ⟨l, vs, rfl, h1, h2⟩ := x1.lst
  obtain ⟨ll, e1, e2⟩ := StrsAre.values h2.strs
  refine ⟨l, ll, rfl, by rw [← e1]; simpa using h1, ss, e2, hok, fun t' k => ⟨_, q, (k0.trans k1).trans Kp.toks, Im.str _ _⟩⟩

theorem BuiS.intB (b : Bool) : BuiS B n (.type "int") [.im (.bool b)] (.im (.int (if b then 1 else 0))) := .one fun env oa A s0 s v E bs a x => by
  rw [x.bool]
  exact call_int_bool ⟨Kp.toks, Im.int _ _⟩
theorem CmpS.leS (a b : Str) : CmpS B n .LtE (.im (.str a)) (.im (.str b)) (sle a b) := fun env oa A s0 s vx vy E bs ar x y => by
  obtain ⟨t, rfl⟩ := x.str; obtain ⟨u, rfl⟩ := y.str
  refine PySem.P.le_str ⟨?_, Kp.refl _⟩
  unfold sle
  rw [ltCps_eq]
end
end Mine
end

section
open PySem PySem.W PyProof.Rows PySem.Calls PyProof
set_option Elab.async false
set_option maxRecDepth 100000
namespace Mine
theorem mgOf {K : Frag} {h : Heap} {mg : Str → Option Value} {x : Str} {r : Option Value} (X : K.In h) (g : h.Ns mainGlobals mg) (e : nsIn K mainGlobals x = some r) : mg x = r := by
  obtain ⟨o, es, ep, ho, hd, hk, hf⟩ := g
  cases hl : K.lookup mainGlobals with
  | none =>
    rw [nsIn, hl] at e
    cases e
  | some ob =>
    have := X _ _ hl
    rw [ho] at this
    cases this
    obtain ⟨c0, dd, data, sl⟩ := o
    have hd' : data = .dict es ep := hd
    subst hd'
    rw [nsIn, hl] at e
    rw [← hf x]
    unfold nsFind findBy
    rw [← Array.find?_toList]
    cases he : es.toList.find? (·.key.isStr x) with
    | some en =>
      have e2 : (some (some en.val) : Option (Option Value)) = some r := by
        have e3 := e
        dsimp only at e3
        rw [he] at e3
        exact e3
      cases e2; rfl
    | none =>
      have e2 : (if es.toList.any (·.refKey) then (none : Option (Option Value)) else some none) = some r := by
        have e3 := e
        dsimp only at e3
        rw [he] at e3
        exact e3
      by_cases q : es.toList.any (·.refKey) = true
      · rw [if_pos q] at e2; cases e2
      · rw [if_neg q] at e2; cases e2; rfl
theorem FnAt.loud {B : Bs} {f names body scope} (h : FnAt B f names body scope) : FnAt B.loud f names body scope := ⟨h.ex, h.co, h.gen, h.cells⟩
end Mine
end

section
open PySem PySem.W PyProof.Rows PySem.Calls PyProof
set_option Elab.async false
set_option maxRecDepth 100000
set_option linter.unusedVariables false
namespace Mine
section
variable {B : Bs} {F : Fi} {X : Str → Prop} {n : Nat} {ρ : List (Option Sl)}
theorem SWs.freeze {sts : List Stmt} {Q : Fl → List (Option Sl) → Prop} (i : Nat) {c : Cont} {mm : Option Addr} (hs : ρ[i]? = some (some (.own c mm))) (h : SWs B F X n (ρ.set i (some (.fz c))) sts Q) : SWs B F X n ρ sts Q := by
  refine .mk ?_
  intro env oa A s hd R a
  have hlt : i < ρ.length := (List.getElem?_eq_some_iff.mp hs).1
  have sub : ∀ j b, (if j = i then none else oa j) = some b → j ≠ i ∧ oa j = some b := fun j b q => by
    by_cases e : j = i
    · rw [if_pos e] at q; cases q
    · rw [if_neg e] at q; exact ⟨e, q⟩
  have fw : ∀ b, FW env (fun j => if j = i then none else oa j) b → FW env oa b := fun b q => by
    rcases q with q | ⟨j, q⟩
    · exact .inl q
    · exact .inr ⟨j, (sub j b q).2⟩
  have R' : Rp B F env (fun j => if j = i then none else oa j) (ρ.set i (some (.fz c))) s := by
    refine ⟨R.base, R.scope, R.globals, R.builtins, R.ns, R.cells, R.apart, R.locCell, R.cellsLive, R.privNew, fun j x k sl h1 h2 => ?_, fun j k b q1 q2 => R.oinj j k b (sub j b q1).2 (sub k b q2).2, fun j b q => R.opriv j b (sub j b q).2⟩
    by_cases e : j = i
    · subst e
      rw [List.getElem?_set_self hlt] at h2; cases h2
      obtain ⟨b, g1, g2, g3, _⟩ := R.slots j x k _ h1 hs
      refine ⟨b, g1, g2, fun q => ?_⟩
      rcases q with q | ⟨j', q⟩
      · exact (R.opriv j b g3).1 q
      · obtain ⟨q1, q2⟩ := sub j' b q
        exact q1 (R.oinj j' j b q2 g3)
    · rw [List.getElem?_set_ne (Ne.symm e)] at h2
      have z := R.slots j x k sl h1 h2
      cases sl with
      | im d => exact z
      | fz c => (obtain ⟨b, g1, g2, g3⟩ := z; exact ⟨b, g1, g2, fun q => g3 (fw b q)⟩)
      | own c => (obtain ⟨b, g1, g2, g3, g4⟩ := z; exact ⟨b, g1, g2, (if_neg e).trans g3, g4⟩)
  refine wpAny_mono (h.go env _ A s hd R' a) (fun f s' x => ?_) fun e s' x => ?_
  · obtain ⟨fl, ρ', oa', h1, h2, h3, h4, h5⟩ := x
    exact ⟨fl, ρ', oa', h1, h2, h3, h4.mono fw, fun j b q => (h5 j b q).imp (fun hz1 => by obtain ⟨j', q'⟩ := hz1; exact ⟨j', (sub j' b q').2⟩) (fun x => x)⟩
  · obtain ⟨c, cv, ad, h1, h2, h3, h4, h5⟩ := x
    exact ⟨c, cv, ad, h1, h2, h3, h4.mono fw, h5⟩
end
end Mine
end

section
open PySem PySem.W PyProof.Rows PySem.Calls PyProof
set_option Elab.async false
set_option maxRecDepth 100000
set_option linter.unusedVariables false
namespace Mine
section
variable {B : Bs} {F : Fi} {X : Str → Prop} {n : Nat} {ρ : List (Option Sl)}
end
end Mine
end

section
open PySem PySem.W PyProof.Rows PySem.Calls PyProof PySem.SeqAt
set_option Elab.async false
set_option maxRecDepth 100000
set_option linter.unusedVariables false
namespace Mine
section
variable {B : Bs} {F : Fi} {X : Str → Prop} {n : Nat} {ρ : List (Option Sl)}
theorem BinS.pow {a k : Int} (hn : 0 ≤ k) (hn2 : k ≤ 1000000) (ha : a.natAbs < 2 ^ 64) : BinS B n .Pow (.im (.int a)) (.im (.int k)) (.im (.int (a ^ k.toNat))) := fun env oa A s0 s vx vy E bs ar x y => by
  obtain ⟨t, rfl⟩ := x.int; obtain ⟨u, rfl⟩ := y.int
  exact PyProof.Rows.pow_int_small hn hn2 ha ⟨Kp.toks, Im.int _ _⟩
theorem noFill_tuple_mul : fillsNumberSlot (.type "tuple") "mul" = pure false :=
  PySem.fillsNumberSlot_seq (id := "tuple.__mul__") (r := some (.builtin "tuple.__rmul__")) PySem.F.slot_tuple_mul.lookup (by decide +kernel) PySem.F.slot_tuple_rmul.lookup (by decide +kernel)
theorem repeat_tuple : seqRepeat? (.type "tuple") = pure (some (.builtin "tuple.__mul__")) := by
  unfold seqRepeat?
  rw [PySem.seqSlot_of (T := "tuple") (name := "__mul__") (id := "tuple.__mul__") PySem.F.slot_tuple_mul.lookup (by decide +kernel), PySem.seqSlot_of (T := "tuple") (name := "__rmul__") (id := "tuple.__rmul__") PySem.F.slot_tuple_rmul.lookup (by decide +kernel)]
  rfl
theorem int_rmul_tuple (a : Int) (t : Tok) (l : Addr) (items : Array Value) (n : Nat) (d : Option Addr) (sl : Array (Option Value)) :
    Meets (Builtin.«int.__rmul__» ⟨[.int a t, .ref l], []⟩) (fun _ R s => s.heap.get? l = some { cls := .type "tuple", dict := d, data := .seq items n, slots := sl } ∧ R (.ok (.ret Value.notImplemented)) s) :=
  .of_wp fun prog w A R s h => by obtain ⟨hp, g, d, tk, os⟩ := s; obtain ⟨hl, h⟩ := h; wp_walk; exact ⟨_, rfl, h⟩
theorem tuple_mul_one (l : Addr) (items : Array Value) (n : Nat) (d : Option Addr) (sl : Array (Option Value)) (u : Tok) :
    Meets (Builtin.«tuple.__mul__» ⟨[.ref l, .int 1 u], []⟩) (fun _ R s => s.heap.get? l = some { cls := .type "tuple", dict := d, data := .seq items n, slots := sl } ∧ R (.ok (.ret (.ref l))) s) :=
  .of_wp fun prog w A R s h => by
    obtain ⟨hp, g, d, tk, os⟩ := s; obtain ⟨hl, h⟩ := h
    unfold Builtin.«tuple.__mul__»
    wp_walk
    exact ⟨_, rfl, h⟩
theorem tuple_mul_more (l : Addr) (items : Array Value) (n : Nat) (d : Option Addr) (sl : Array (Option Value)) (k : Int) (u : Tok) (h1 : items.isEmpty = false) (h2 : 1 < k) (h3 : k < 1000) (h4 : items.size < 1000) :
    Meets (Builtin.«tuple.__mul__» ⟨[.ref l, .int k u], []⟩) (fun _ R s => s.heap.get? l = some { cls := .type "tuple", dict := d, data := .seq items n, slots := sl } ∧
      R (.ok (.ret (.ref s.heap.objs.size))) { s with heap := s.heap.push { cls := .type "tuple", data := .seq (List.foldl (fun x1 x2 => x1 ++ x2) #[] (List.replicate k.toNat items)) } }) :=
  .of_wp fun prog w A R s h => by
    obtain ⟨hp, g, d, tk, os⟩ := s; obtain ⟨hl, h⟩ := h
    unfold Builtin.«tuple.__mul__»
    have hsz : (List.foldl (fun x1 x2 => x1 ++ x2) #[] (List.replicate k.toNat items)).size ≤ sizeLine := by
      have fr : ∀ (n : Nat) (acc : Array Value), ((List.replicate n items).foldl (fun x1 x2 => x1 ++ x2) acc).size = acc.size + n * items.size := by
        intro n
        induction n with
        | zero => intro acc; simp
        | succ n ih => intro acc; rw [List.replicate_succ, List.foldl_cons, ih, Array.size_append, Nat.add_one_mul]; (first | lia | omega)
      rw [fr, sizeLine_eq]
      have := Nat.mul_le_mul (show k.toNat ≤ 1000 by (first | lia | omega)) (Nat.le_of_lt h4)
      simp; (first | lia | omega)
    have hmul : (items.size : Int) * k ≤ 1000000 := by
      have := Int.mul_le_mul (show (items.size : Int) ≤ 1000 by (first | lia | omega)) (show k ≤ 1000 by (first | lia | omega)) (by (first | lia | omega)) (by (first | lia | omega))
      (first | lia | omega)
    wp_walk
    refine wpAny_ite_false (by simp; (first | lia | omega)) ?_
    wp_walk
    refine wpAny_ite_false (by simp [h1]; (first | lia | omega)) ?_
    wp_walk
    refine wpAny_ite_false (by simp [h1]; (first | lia | omega)) ?_
    wp_walk
    refine wpAny_ite_false (by simp; (first | lia | omega)) ?_
    wp_walk
    refine wpAny_ite_false (by simp [Builtin.Tuple.tupleTooMany, sizeLine_eq]; (first | lia | omega)) ?_
    wp_walk
    exact ⟨_, rfl, h⟩

theorem repArr (v : Value) : ∀ (n : Nat) (acc : Array Value), ((List.replicate n #[v]).foldl (fun x1 x2 => x1 ++ x2) acc).toList = acc.toList ++ List.replicate n v
  | 0, acc => by simp
  | n + 1, acc => by rw [List.replicate_succ, List.foldl_cons, repArr v n]; simp [List.replicate_succ]
theorem Ims.rep {h : Heap} {v : Value} {d : D} (x : Im h v d) : ∀ n, Ims h (List.replicate n v) (List.replicate n d)
  | 0 => .nil
  | n + 1 => .cons x (Ims.rep x n)
theorem BinS.mulT1 {d : D} {k : Int} (h1 : 1 ≤ k) (h2 : k < 1000) : BinS B n .Mult (.im (.tup [d])) (.im (.int k)) (.im (.tup (List.replicate k.toNat d))) := fun env oa A s0 s vx vy E b a x y => by
  obtain ⟨p, ⟨cls, dd, data, sl⟩, vs, m, rfl, g1, g2, g3, g4⟩ := x.tup
  obtain ⟨u, rfl⟩ := y.int
  simp only at g2 g3
  subst g2 g3
  obtain ⟨v, hv⟩ := len1 (l := vs.toList) (by rw [g4.length]; rfl)
  have hvs : vs = #[v] := by apply Array.ext'; rw [hv]
  subst hvs
  have g5 : Im s.heap v d := by cases g4 with | cons q _ => exact q
  refine wpAny_binaryOp_repeat_ref (T := "tuple") (U := "int") (by decide) ⟨_, g1, rfl⟩ (fun s' => typeIs_int s' k u) noFill_tuple_mul PySem.F.fills_int_mul PySem.F.slot_int_rmul repeat_tuple PySem.F.slot_int_index.lookup
    (call_meets PySem.F.slot_int_rmul (typeIs_int s k u) PySem.F.entry_int_rmul (PySem.F.args_int_rmul_2 _ _) (int_rmul_tuple k u p #[v] m dd sl) ⟨g1, rfl, ⟨_, g1, rfl⟩, ?_⟩)
  by_cases e : k = 1
  · subst e
    exact call_meets PySem.F.slot_tuple_mul ⟨_, g1, rfl⟩ PySem.F.entry_tuple_mul (PySem.F.args_tuple_mul_2 _ _) (tuple_mul_one p #[v] m dd sl u) ⟨g1, Kp.refl _, Im.tup g1 rfl rfl g4⟩
  · refine call_meets PySem.F.slot_tuple_mul ⟨_, g1, rfl⟩ PySem.F.entry_tuple_mul (PySem.F.args_tuple_mul_2 _ _) (tuple_mul_more p #[v] m dd sl k u rfl (by (first | lia | omega)) h2 (by simp)) ⟨g1, ?_⟩
    have kk : Kp B s { s with heap := s.heap.push { cls := .type "tuple", data := .seq (List.foldl (fun x1 x2 => x1 ++ x2) #[] (List.replicate k.toNat #[v])) } } := push_kp (t := s.toks) _
    refine ⟨kk, Im.tup (Heap.get?_push_size _ rfl) rfl rfl ?_⟩
    rw [repArr]
    exact (Ims.rep g5 _).grow kk.tups
end
end Mine
end

section
open PySem PySem.W PyProof.Rows PySem.Calls PyProof
set_option Elab.async false
set_option maxRecDepth 100000
set_option linter.unusedVariables false
namespace Mine
section
variable {B : Bs} {F : Fi} {X : Str → Prop} {n : Nat} {ρ : List (Option Sl)}
end
end Mine
end

section
open PySem PySem.W PyProof.Rows PySem.Calls PyProof
set_option Elab.async false
set_option maxRecDepth 100000
set_option linter.unusedVariables false
namespace Mine
section
variable {prog : Program} {w : World} {A : Around} {E : Value → Shared → Prop} {s : Shared}
end
section
variable {B : Bs} {F : Fi} {X : Str → Prop} {n : Nat} {ρ : List (Option Sl)}
end
end Mine
end

section
open PySem PySem.W PyProof.Rows PySem.Calls PyProof
set_option Elab.async false
set_option maxRecDepth 100000
set_option linter.unusedVariables false
namespace Mine
section
variable {B : Bs} {F : Fi} {X : Str → Prop} {n : Nat} {ρ : List (Option Sl)}
noncomputable def WhInv (B : Bs) (F : Fi) (n : Nat) (env : Env) (oa : Nat → Option Addr) (A : Around) (s : Shared) (I : Nat → List (Option Sl) → Prop) (m : Nat) (t : Shared) : Prop :=
  ∃ ρ' oa', I m ρ' ∧ Rp B F env oa' ρ' t ∧ Ar B A n t ∧ KpW B (FW env oa) s t ∧ OwnFrom s oa oa'
theorem SW.while_ {test : Expr} {body orelse : List Stmt} {pos : Pos} {Q : Fl → List (Option Sl) → Prop} (I : Nat → List (Option Sl) → Prop) (m0 : Nat) (h0 : I m0 ρ)
    (h : ∀ m ρ', I m ρ' → TW B F X n ρ' test fun b => if b = true then SWs B F X n ρ' body (fun fl ρ3 => match fl with | .next => ∃ m', m' < m ∧ I m' ρ3 | .cont => ∃ m', m' < m ∧ I m' ρ3 | .brk => Q .next ρ3 | .ret r => Q (.ret r) ρ3) else SWs B F X n ρ' orelse Q) :
    SW B F X n ρ (.While test body orelse pos) Q := by
  refine .mk ?_
  intro env oa A s hd R a
  refine wpAny_While (codeAny_whileLoop (WhInv B F n env oa A s I) ?_ m0 ⟨ρ, oa, h0, R, a, KpW.refl _, OwnFrom.refl _ _⟩)
  rintro m t ⟨ρ', oa', hI, R', a', kt, ot⟩
  refine wpAny_mono ((h m ρ' hI).go env oa' A t R' a') (fun b t1 hz => ?_) (fun e t1 x => notedFly hd (a.epw (EPW.back (oa1 := oa') kt ot (EP.toW x))) (EPW.back (oa1 := oa') kt ot (EP.toW x)))
  obtain ⟨q, k1⟩ := hz
  have kt1 := kt.trans (W' := FW env oa') k1.toW (FW.from ot)
  cases b with
  | false =>
    simp only [Bool.false_eq_true, if_false] at q ⊢
    exact wpAny_mono (q.run hd (R'.kp k1) (a'.kp k1) kt1 ot) (fun f s3 x => x) fun e s3 x => notedFly hd (a.epw x) x
  | true =>
    simp only [if_true] at q ⊢
    refine wpAny_mono (q.run hd (R'.kp k1) (a'.kp k1) kt1 ot) (fun f t3 x => ?_) fun e s3 x => notedFly hd (a.epw x) x
    obtain ⟨fl, ρ3, oa3, q3, r3, R3, k3, o3⟩ := x
    cases f with
    | next => cases fl with
      | next => obtain ⟨m', hm, hI'⟩ := q3; exact ⟨m', hm, ρ3, oa3, hI', R3, a.kp k3, k3, o3⟩
      | _ => exact r3.elim
    | cont => cases fl with
      | cont => obtain ⟨m', hm, hI'⟩ := q3; exact ⟨m', hm, ρ3, oa3, hI', R3, a.kp k3, k3, o3⟩
      | _ => exact r3.elim
    | brk => cases fl with
      | brk => exact ⟨.next, ρ3, oa3, q3, trivial, R3, k3, o3⟩
      | _ => exact r3.elim
    | ret v => cases fl with
      | ret r => exact ⟨.ret r, ρ3, oa3, q3, r3, R3, k3, o3⟩
      | _ => exact r3.elim
end
end Mine
end

section
open PySem PySem.W PyProof.Rows PySem.Calls PyProof
set_option Elab.async false
set_option maxRecDepth 100000
set_option linter.unusedVariables false
namespace Mine
section
variable {B : Bs} {F : Fi} {X : Str → Prop} {n : Nat} {ρ : List (Option Sl)}
theorem EW.pairD {e1 e2 : Expr} {k pos} {Q : AV → Prop} (h : LW B F X n ρ [e1, e2] fun rs => ∃ d m l, rs = [.im d, .ct m (.lst l)] ∧ Q (.ct m (.pair d l))) : EW B F X n ρ (.Tuple [e1, e2] k pos) Q :=
  .mk fun env oa A s R a => wpAny_Tuple (wpAny_mono (h.go env oa A s pos R a) (fun vs s1 hz => by
    obtain ⟨rs, ⟨d, m, l, rfl, q⟩, k1, e, hv⟩ := hz
    obtain ⟨v0, v1, rfl⟩ := len2 e
    have x0 : Im s1.heap v0 d := hv 0 v0 _ rfl rfl
    have x1 : VR B env oa s s1 v1 (.ct m (.lst l)) := hv 1 v1 _ rfl rfl
    have kp : Kp B s1 { s1 with heap := s1.heap.push { cls := .type "tuple", data := .seq [v0, v1].toArray } } := push_kp _ (t := s1.toks)
    refine ⟨show 2 ≤ sizeLine by decide, _, q, k1.trans kp, ?_⟩
    have x2 := x1.kp kp
    have mk : ∀ b, v1 = .ref b → Vw (s1.heap.push { cls := .type "tuple", data := .seq [v0, v1].toArray }) (.ref s1.heap.objs.size) b (.pair d l) := fun b hb => by
      subst hb
      exact ⟨_, _, 0, v0, rfl, Heap.get?_push_size _ rfl, rfl, rfl, x0.grow kp.tups⟩
    cases m with
    | fz => obtain ⟨b, h1, h2, h3⟩ := x2; exact ⟨b, mk b h1, h2, h3⟩
    | fr => obtain ⟨b, h1, h2, h3⟩ := x2; exact ⟨b, mk b h1, h2, h3⟩
    | ow i => obtain ⟨b, h1, h2, h3⟩ := x2; exact ⟨b, mk b h1, h2, h3⟩) fun _ _ x => x)
theorem VR.pair {env oa} {s s' : Shared} {v : Value} {m : Md} {d : D} {l : List D} (x : VR B env oa s s' v (.ct m (.pair d l))) : ∃ t b v0, v = .ref t ∧ IsTup s'.heap t #[v0, .ref b] ∧ Im s'.heap v0 d ∧ VR B env oa s s' (.ref b) (.ct m (.lst l)) := by
  cases m with
  | fz => obtain ⟨b, ⟨t, o, n, v0, h1, h2, h3, h4, h5⟩, h6, h7⟩ := x; exact ⟨t, b, v0, h1, ⟨o, h2, h3, n, h4⟩, h5, b, rfl, h6, h7⟩
  | fr => obtain ⟨b, ⟨t, o, n, v0, h1, h2, h3, h4, h5⟩, h6, h7⟩ := x; exact ⟨t, b, v0, h1, ⟨o, h2, h3, n, h4⟩, h5, b, rfl, h6, h7⟩
  | ow i => obtain ⟨b, ⟨t, o, n, v0, h1, h2, h3, h4, h5⟩, h6, h7⟩ := x; exact ⟨t, b, v0, h1, ⟨o, h2, h3, n, h4⟩, h5, b, rfl, h6, h7⟩
theorem SubS.pair0 {m : Md} {d : D} {l : List D} : SubS B n (.ct m (.pair d l)) (.im (.int 0)) (.im d) := fun env oa A s0 s vx vi value slice E b a x i hs => by
  obtain ⟨t, bb, v0, rfl, h1, h2, h3⟩ := x.pair
  obtain ⟨u, rfl⟩ := i.int
  exact tail_any h1.typeIs slot_tuple_getitem.lookup (PyProof.Rows.getItem_tuple h1 (by decide) (by decide) (j := 0) rfl rfl ⟨Kp.refl _, h2⟩) hs
theorem SubS.pair1 {i : Nat} {d : D} {l : List D} : SubS B n (.ct (.ow i) (.pair d l)) (.im (.int 1)) (.ct (.ow i) (.lst l)) := fun env oa A s0 s vx vi value slice E b a x y hs => by
  obtain ⟨t, bb, v0, rfl, h1, h2, h3⟩ := x.pair
  obtain ⟨u, rfl⟩ := y.int
  refine tail_any h1.typeIs slot_tuple_getitem.lookup (PyProof.Rows.getItem_tuple h1 (by decide) (by decide) (j := 1) rfl rfl ⟨Kp.refl _, ?_⟩) hs
  obtain ⟨a', h4, h5, h6⟩ := h3
  exact ⟨a', h4, h5, h6⟩
theorem SW.assignT {es k tpos value pos} {Q : Fl → List (Option Sl) → Prop} (h : EW B F X n ρ value fun r => ∃ d, r = .im d ∧ AsW B F n ρ (.Tuple es k tpos) d fun ρ2 => Q .next ρ2)
    (hs : ∀ env, swapsWithSole [.Tuple es k tpos] value pos.line env = pure false := by intro _; rfl) (hw : ∀ env, swappedStores [.Tuple es k tpos] value env = pure none := by intro _; rfl) : SW B F X n ρ (.Assign [.Tuple es k tpos] value pos) Q :=
  .mk fun env oa A s hd R a => wpAny_Assign_stores (wpAny_mono (h.go env oa A s R a) (fun v s1 hz => by
    obtain ⟨r, ⟨d, rfl, q⟩, k1, x1⟩ := hz
    show wpAny _ _ (PySem.assign (.Tuple es k tpos) env v) _ _ _
    refine wpAny_mono (q.go env oa A s1 v _ (R.kp k1) (a.kp k1) x1) (fun _ s2 hz2 => ?_) fun _ _ x => x
    obtain ⟨ρ2, oa2, q2, R2, k2, o2, _⟩ := hz2
    exact ⟨.next, ρ2, oa2, q2, trivial, R2, (Kp.toW k1).trans (k2.mono fun _ x => .inl x) (fun _ x => .inl x), (OwnFrom.refl s oa).trans k1 o2⟩) fun _ _ x => x.toW) (hs env) (hw env)
theorem SW.move {x : Str} {pos' : Pos} {value : Expr} {pos : Pos} {Q : Fl → List (Option Sl) → Prop} (i j : Nat) {xi : Str} {ki : Kd} (hij : i ≠ j) (hxi : F.vars[i]? = some (xi, ki)) (hx : F.vars[j]? = some (x, .loc)) (hj : j < F.own)
    (h : EW B F X n ρ value fun r => ∃ c, r = .ct (.ow i) c ∧ Q .next ((ρ.set i none).set j (some (.own c))))
    (hs : ∀ env, swapsWith value (some (.Name x pos')) pos.line env = pure false := by intro _; rfl) : SW B F X n ρ (.Assign [.Name x pos'] value pos) Q :=
  .mk fun env oa A s hd R a => wpAny_Assign_Name (wpAny_mono (h.go env oa A s R a) (fun v s1 hz => by
    obtain ⟨r, ⟨c, rfl, q⟩, k1, b, hv, hc, hb⟩ := hz
    -- forget the name at i, and what it owned
    have hne : ∀ k a', oa k = some a' → k ≠ i → a' ≠ b := fun k a' e ne q => ne (R.oinj k i b (q ▸ e) hb)
    have R1 : Rp B F env (fun k => if k = i then none else oa k) (ρ.set i none) s := by
      have sub : ∀ k b', (if k = i then none else oa k) = some b' → oa k = some b' ∧ k ≠ i := fun k b' e => by
        by_cases q : k = i
        · rw [if_pos q] at e; cases e
        · rw [if_neg q] at e; exact ⟨e, q⟩
      refine { R with slots := ?_, oinj := fun k k' b' e e' => R.oinj k k' b' (sub k b' e).1 (sub k' b' e').1, opriv := fun k b' e => R.opriv k b' (sub k b' e).1 }
      intro k y kk sl hy hsl
      have hki : k ≠ i := fun q => by
        subst q
        by_cases hlt : k < ρ.length
        · rw [List.getElem?_set_self hlt] at hsl; cases hsl
        · rw [List.getElem?_eq_none (by simpa using Nat.le_of_not_lt hlt)] at hsl; cases hsl
      rw [List.getElem?_set_ne (Ne.symm hki)] at hsl
      have z := R.slots k y kk sl hy hsl
      have subW : ∀ b', FW env (fun k => if k = i then none else oa k) b' → FW env oa b' := by
        rintro b' (q | ⟨k, q⟩)
        · exact .inl q
        · exact .inr ⟨k, (sub k b' q).1⟩
      cases sl with
      | im d => exact z
      | fz c => obtain ⟨b', z1, z2, z3⟩ := z; exact ⟨b', z1, z2, fun w => z3 (subW b' w)⟩
      | own c m => obtain ⟨b', z1, z2, z3, z4⟩ := z; exact ⟨b', z1, z2, (by show (if k = i then none else oa k) = some b'; rw [if_neg hki]; exact z3), z4⟩
    have hfr : ¬ FW env (fun k => if k = i then none else oa k) b := by
      rintro (p | ⟨k, p⟩)
      · exact (R.opriv i b hb).1 p
      · by_cases e : k = i
        · simp [e] at p
        · simp only [if_neg e] at p; exact e (R.oinj k i b p hb)
    have x1 : VR B env (fun k => if k = i then none else oa k) s s1 v (.ct .fz c) := ⟨b, hv, hc, hfr⟩
    refine wpAny_mono (storeVar R1 k1 x1 hx rfl (by decide) hj) (fun _ s2 hz10 => ?_) fun _ _ x => x
    obtain ⟨h1, h2, h3, _, hnew, hold⟩ := hz10
    -- and take it over
    have hlt : j < ρ.length ∨ ¬ j < ρ.length := Classical.em _
    have hoa : ∀ k, oaSet (fun k => if k = i then none else oa k) j s1.heap v (.ct .fz c) k = if k = j then none else if k = i then none else oa k := fun k => rfl
    have hlive : ∃ o, s2.heap.get? b = some o := by
      obtain ⟨o, ho⟩ := hc.exists
      obtain ⟨o', ho', _⟩ := h2.live b o ho
      exact ⟨o', ho'⟩
    have other : ∀ k b', (if k = j then some b else if k = i then none else oa k) = some b' → (k = j ∧ b' = b) ∨ (k ≠ j ∧ k ≠ i ∧ oa k = some b') := fun k b' e => by
      by_cases q1 : k = j
      · rw [if_pos q1] at e; cases e; exact .inl ⟨q1, rfl⟩
      · rw [if_neg q1] at e
        by_cases q2 : k = i
        · rw [if_pos q2] at e; cases e
        · rw [if_neg q2] at e; exact .inr ⟨q1, q2, e⟩
    refine ⟨.next, _, fun k => if k = j then some b else if k = i then none else oa k, q, trivial, ?_, (Kp.toW k1).trans (h2.mono fun _ x => .inl x) (fun _ x => .inl x), fun k b' e => ?_⟩
    · refine { h1 with slots := ?_, oinj := ?_, opriv := ?_ }
      · intro k y kk sl hy hsl
        by_cases e : k = j
        · subst e
          have hl : k < (ρ.set i none).length := by
            by_cases q : k < (ρ.set i none).length
            · exact q
            · rw [List.getElem?_eq_none (by simpa using Nat.le_of_not_lt q)] at hsl; cases hsl
          rw [List.getElem?_set_self hl] at hsl
          injection hsl with hsl; injection hsl with hsl; subst hsl
          obtain ⟨b', z1, z2, z3⟩ := h1.slots k y kk (.fz c) hy (List.getElem?_set_self hl)
          have : b' = b := by
            obtain ⟨u, z4, z5⟩ := z1.get
            rw [hx] at hy; cases hy
            have := VarAt.unique z4 hnew
            subst this
            exact z5.unique (hv.grow h2.tups)
          subst this
          exact ⟨b', z1, z2, if_pos rfl, fun _ q => by cases q⟩
        · rw [List.getElem?_set_ne (Ne.symm e)] at hsl
          have z := h1.slots k y kk sl hy (by rw [List.getElem?_set_ne (Ne.symm e)]; exact hsl)
          have hki : k ≠ i := fun q => by
            subst q
            by_cases hlt : k < ρ.length
            · rw [List.getElem?_set_self hlt] at hsl; cases hsl
            · rw [List.getElem?_eq_none (by simpa using Nat.le_of_not_lt hlt)] at hsl; cases hsl
          cases sl with
          | im d => exact z
          | fz c' =>
            obtain ⟨b', z1, z2, z3⟩ := z
            refine ⟨b', z1, z2, ?_⟩
            rw [List.getElem?_set_ne (Ne.symm hki)] at hsl
            obtain ⟨b0, y1, y2, y3⟩ := (R.kp k1).slots k y kk (.fz c') hy hsl
            have hbb : b' = b0 := VarV.unique z1 (y1.map (fun u hu => hold k y kk u hy e hu) h2.tups)
            subst hbb
            rintro (p | ⟨k', p⟩)
            · exact z3 (.inl p)
            · rcases other k' b' p with ⟨_, p2⟩ | ⟨p1, p2, p3⟩
              · subst p2; exact y3 (.inr ⟨i, hb⟩)
              · exact y3 (.inr ⟨k', p3⟩)
          | own c' m =>
            obtain ⟨b', z1, z2, z3, z4⟩ := z
            rw [hoa, if_neg e] at z3
            exact ⟨b', z1, z2, (by show (if k = j then some b else _) = some b'; rw [if_neg e]; exact z3), z4⟩
      · intro k k' b' e e'
        rcases other k b' e with ⟨q1, q2⟩ | ⟨q1, q2, q3⟩ <;> rcases other k' b' e' with ⟨p1, p2⟩ | ⟨p1, p2, p3⟩
        · rw [q1, p1]
        · exact absurd (R.oinj k' i b (q2 ▸ p3) hb) p2
        · exact absurd (R.oinj k i b (p2 ▸ q3) hb) q2
        · exact R.oinj k k' b' q3 p3
      · intro k b' e
        rcases other k b' e with ⟨q1, rfl⟩ | ⟨q1, q2, q3⟩
        · obtain ⟨p1, p2, _⟩ := R.opriv i b' hb; exact ⟨p1, p2, hlive⟩
        · obtain ⟨p1, p2, o, ho⟩ := R.opriv k b' q3
          obtain ⟨o1, ho1, _⟩ := k1.live b' o ho
          obtain ⟨o2, ho2, _⟩ := h2.live b' o1 ho1
          exact ⟨p1, p2, o2, ho2⟩
    · rcases other k b' e with ⟨q1, rfl⟩ | ⟨q1, q2, q3⟩
      · exact .inl ⟨i, hb⟩
      · exact .inl ⟨k, q3⟩) fun _ _ x => x.toW) (hs env)
end
end Mine
end

section
open PySem PySem.W PyProof.Rows PySem.Calls PyProof
set_option Elab.async false
set_option maxRecDepth 100000
set_option linter.unusedVariables false
namespace Mine
section
variable {B : Bs} {F : Fi} {X : Str → Prop} {n : Nat} {ρ : List (Option Sl)}
theorem BuiS.strI {i : Int} (h : i.natAbs.log2 < 1920) : BuiS B n (.type "str") [.im (.int i)] (.im (.str (toString i))) := .one fun env oa A s0 s v E b a x => by
  obtain ⟨t, rfl⟩ := x.int
  exact P.str_of_int h ⟨Kp.toks, Im.str _ _⟩
theorem BuiS.intS {x : Str} {i : Int} (hl : x.length ≤ 640) (hi : PySem.intText? x = some i) : BuiS B n (.type "int") [.im (.str x)] (.im (.int i)) := .one fun env oa A s0 s v E b a y => by
  obtain ⟨t, rfl⟩ := y.str
  exact KIN.call_text hi hl ⟨Kp.toks, Im.int _ _⟩
theorem CmpS.notInS (x y : Str) : CmpS B n .NotIn (.im (.str y)) (.im (.str x)) (!Txt.contains x y) := fun env oa A s0 s vx vy E b a p q => by
  obtain ⟨t, rfl⟩ := p.str
  obtain ⟨u, rfl⟩ := q.str
  exact P.notIn_str ⟨rfl, Kp.refl _⟩
end
end Mine
end

section
open PySem PySem.W PyProof.Rows PySem.Calls PyProof
set_option Elab.async false
set_option maxRecDepth 100000
set_option linter.unusedVariables false
namespace Mine
section
variable {B : Bs} {F : Fi} {X : Str → Prop} {n : Nat} {ρ : List (Option Sl)}
theorem TW.chain2 {l r1 r2 : Expr} {o1 o2 : CmpOp} {pos : Pos} {Q : Bool → Prop}
    (h : EW B F X n ρ l fun x => EW B F X n ρ r1 fun y => ∃ z, CmpS B n o1 x y z ∧ if z = true then EW B F X n ρ r2 (fun u => ∃ z2, CmpS B n o2 y u z2 ∧ Q z2) else Q false)
    (hm : ∀ env, markedEach [o1, o2] [r1, r2] (evalEach [r1, r2] env) = [eval r1 env, eval r2 env] := by intro _; with_unfolding_all rfl) : TW B F X n ρ (.Compare l [o1, o2] [r1, r2] pos) Q :=
  .mk fun env oa A s R a => by
    rw [arm_isTrue_Compare, hm env]
    refine wpAny_bind (h.run R a (Kp.refl _) fun vx s1 rx qx k1 x1 => ?_)
    show wpAny _ _ (holding [vx] (eval r1 env) >>= _) _ _ _
    refine wpAny_bind (wpAny_holding (qx.run (R.kp k1) (a.kp k1) k1 fun vy s2 ry hz k2 x2 => ?_))
    obtain ⟨z, hz, q⟩ := hz
    refine wpAny_bind (wpAny_standAt ?_)
    refine wpAny_bind (wpAny_holding (wpAny_mono (hz env oa A s s2 vx vy _ ((R.kp k1).kp k2).base ((a.kp k1).kp k2) (x1.kp k2) (x2.back k1)) (fun v s3 hz13 => ?_) fun _ _ x => x))
    obtain ⟨e, k3⟩ := hz13
    subst e
    have k12 := (k1.trans k2).trans k3
    refine wpAny_bind (wpAny_release (wpAny_bind (wpAny_holding (wpAny_truthy_bool ?_))))
    cases z with
    | false =>
      simp only [Bool.false_eq_true, if_false] at q ⊢
      exact wpAny_pure ⟨q, k12⟩
    | true =>
      simp only [if_true] at q ⊢
      show wpAny _ _ (holding [vy] (eval r2 env) >>= _) _ _ _
      refine wpAny_bind (wpAny_holding (q.run (R.kp k12) (a.kp k12) k12 fun vu s4 ru hu k4 x4 => ?_))
      obtain ⟨z2, hz2, q2⟩ := hu
      refine wpAny_bind (wpAny_standAt ?_)
      have k14 := k12.trans k4
      refine wpAny_bind (wpAny_operateT (wpAny_mono (hz2 env oa A s s4 vy vu _ (R.kp k14).base (a.kp k14) (((x2.back k1).kp k3).kp k4) (x4.back k12)) (fun v s5 hz5 => ?_) fun _ _ x => x))
      obtain ⟨e, k5⟩ := hz5
      subst e
      exact wpAny_holding (wpAny_truthy_bool ⟨q2, k14.trans k5⟩)
end
end Mine
end

section
open PySem PySem.W PyProof.Rows PySem.Calls PyProof
set_option Elab.async false
set_option maxRecDepth 100000
set_option linter.unusedVariables false
namespace Mine
section
variable {prog : Program} {w : World} {A : Around} {E : Value → Shared → Prop} {s : Shared} {x : Str} {t : Tok} {Q : Value → Shared → Prop} {pos : Pos}
theorem splitM {a : Sem Value} (h : wpAny (model prog w) A a (fun v s₁ => ∃ y u, v = .str y u ∧ (y.length == 0) = false ∧ (Builtin.Str.partsBetween x (Builtin.Str.occurrences x y 0 x.length (x.length + 1)) y.length).length ≤ sizeLine ∧
      ∀ (l : List (Str × Tok)) k, l.map (·.1) = Txt.split x y → Q (.ref s₁.heap.objs.size) { s₁ with toks := k, heap := s₁.heap.push { cls := .type "list", data := .seq (strValues l).toArray } }) E s) (hx : x.length ≤ sizeLine) :
    MethodOnS prog w A E "split" (.str x t) pos [(false, a)] Q s := by
  refine ⟨"str", _, F.plainAttrs_str, F.slot_str_split, F.type_str_split, typeIs_str _ _ _, (fun _ e => nomatch e),
    method1_meets F.slot_str_split F.entry_str_split (wpAny_mono h (fun v s₁ h₁ => ?_) fun _ _ e => e)⟩
  obtain ⟨y, u, rfl, hy, hn, hq⟩ := h₁
  refine ⟨typeIs_str _ _ _, F.args_str_split_2 _ _, ?_⟩
  cases h1 : (decide (x.length < y.length) || decide (Builtin.Str.strKind x < Builtin.Str.strKind y))
  · cases hf : (Builtin.Str.occurrences x y 0 x.length (x.length + 1)).isEmpty
    · refine ⟨_, meets_str_split_sep x y t u h1 hy hf hx hn, ?_⟩
      show wants Q E _ { s₁ with toks := _, heap := s₁.heap.push { cls := .type "list", data := .seq (strsFrom s₁.toks (Builtin.Str.partsBetween x (Builtin.Str.occurrences x y 0 x.length (x.length + 1)) y.length)).toArray } }
      rw [strsFrom_eq]
      exact hq (numbered s₁.toks _) _ ((numbered_texts _ _).trans ((if_neg (ne_true_of_eq_false h1)).trans (if_neg (ne_true_of_eq_false hf))).symm)
    · exact ⟨_, meets_str_split_not_found x y t u h1 hy hf, hq [(x, t)] s₁.toks ((if_neg (ne_true_of_eq_false h1)).trans (if_pos hf)).symm⟩
  · exact ⟨_, meets_str_split_cannot_occur x y t u h1, hq [(x, t)] s₁.toks (if_pos h1).symm⟩
end
section
variable {B : Bs} {F : Fi} {X : Str → Prop} {n : Nat} {ρ : List (Option Sl)}
theorem strVals : ∀ (l : List (Str × Tok)), StrsAre (strValues l) (l.map (·.1))
  | [] => .nil
  | (x, t) :: l => .cons x t (strVals l)
theorem EW.split {o e : Expr} {apos pos : Pos} {Q : AV → Prop}
    (h : EW B F X n ρ o fun r => ∃ x, r = .im (.str x) ∧ x.length ≤ sizeLine ∧ EW B F X n ρ e fun y => ∃ sep, y = .im (.str sep) ∧ (sep.length == 0) = false ∧ (Builtin.Str.partsBetween x (Builtin.Str.occurrences x sep 0 x.length (x.length + 1)) sep.length).length ≤ sizeLine ∧ Q (.ct .fr (.lst ((Txt.split x sep).map .str))))
    (hline : (apos.endLine == pos.line) = true := by rfl) (hb : ∀ env, attributeBase o "split" env (eval o env) = eval o env := by intro _; rfl)
    (htr : ∀ env, backTo pos (starEach [e] env) = [(false, eval e env)] := by intro _; rfl) :
    EW B F X n ρ (.Call (.Attribute o "split" apos) [e] [] pos) Q := by
  refine .mk ?_
  intro env oa A s R a
  refine wpAny_Call_method_lateS (hb env) (by rw [htr]; rfl) hline (h.run R a (Kp.refl _) fun v0 s0 r hz3 k0 x0 => ?_)
  obtain ⟨x, hr, hx, he⟩ := hz3
  subst hr
  obtain ⟨t, rfl⟩ := x0.str
  rw [htr]
  refine splitM (he.run (R.kp k0) (a.kp k0) k0 fun v1 s1 r1 hz4 k1 x1 => ?_) hx
  obtain ⟨sep, hr1, hne, hlen, q⟩ := hz4
  subst hr1
  obtain ⟨u, rfl⟩ := x1.str
  refine ⟨sep, u, rfl, hne, hlen, fun l k hl => ⟨_, q, ?_, ?_⟩⟩
  · exact (k0.trans k1).trans (Kp.of fun b o e => Heap.get?_push_of_some _ e)
  · refine ⟨_, rfl, ⟨_, _, _, Heap.get?_push_size _ rfl, ⟨rfl, rfl⟩, rfl, ?_⟩, (k0.trans k1).fresh (fresh_size s1)⟩
    rw [← hl]
    simpa using Ims.ofStrs (h := s1.heap.push { cls := .type "list", data := .seq (strValues l).toArray }) (strVals l)
end
end Mine
end

section
open PySem PySem.W PyProof.Rows PySem.Calls PyProof
set_option Elab.async false
set_option maxRecDepth 100000
set_option linter.unusedVariables false
namespace Mine
section
variable {B : Bs} {F : Fi} {X : Str → Prop} {n : Nat} {ρ : List (Option Sl)}
theorem caughtE {env oa A} {s s1 : Shared} {e : Value} {X1 : Str → Prop} {hp rp cp : Pos} {c nm : Str} {e2 : Expr} {Q : Fl → List (Option Sl) → Prop} (i : Nat) (hx : F.vars[i]? = some (nm, .loc)) (hi : i < F.own) (hlen : i < ρ.length)
    (hkc : F.scope.names.lookup c = some .globalImplicit) {K : Frag} (X0 : K.In B.hB) {S : Addr} (hS : B.mg c = some (.ref S)) (xS : XC K S)
    (hX : ∀ c', X1 c' → ∃ C', B.mg c' = some (.ref C') ∧ mroIn K C' (.ref S) = some true) (wd : Str → D) (hf : ∀ c', X1 c' → EW B.loud F NoX n (ρ.set i (some (.own (.exc c')))) e2 fun r => r = .im (wd c'))
    (hw : ∀ c', X1 c' → Q (.ret (.im (wd c'))) [])
    (hdc : (c == ("__debug__" : Str)) = false)
    (hd : Hd A env) (R : Rp B F env oa ρ s) (a : Ar B A n s) (x : EP B X1 s e s1) :
    wpAny (model B.prog B.w) A (noteFrame e env) (fun _ s₂ => wpAny (model B.prog B.w) A (setFlight e none) (fun _ s₃ => wpAny (model B.prog B.w) A
      (handleBy e env [.ExceptHandler (some (.Name c cp)) (some nm) [.Return (some e2) rp] hp]) (Po B F env oa s Q) (EPW B (FW env oa) X s) s₃) (EPW B (FW env oa) X s) s₂) (EPW B (FW env oa) X s) s1 := by
  obtain ⟨c', cv, ad, h1, h2, rfl, k1, fl⟩ := x
  obtain ⟨C', hC', hmro⟩ := hX c' h1
  rw [hC'] at h2; cases h2
  obtain ⟨⟨l, hl⟩, hfr⟩ := id hd
  have a1 := a.kp k1
  have fr : Fr1 B A env s1 := by
    obtain ⟨l', f1, f2, f3⟩ := a1.frames
    rw [hl] at f1; cases f1
    exact ⟨l, hl, f2, f3⟩
  refine wpAny_mono (noteFly hfr fr k1 fl) (fun _ s2 hz1 => ?_) fun _ _ x => x
  obtain ⟨k2, y2⟩ := hz1
  refine wpAny_mono (flightFly k2 y2) (fun _ s3 hz2 => ?_) fun _ _ x => x
  obtain ⟨k3, y3⟩ := hz2
  have hkfn : env.scope.kind = .function := by rw [R.scope]; exact F.fn
  have hxc : env.kindOf c = some .globalImplicit := by unfold Env.kindOf; rw [R.scope]; exact hkc
  refine wpAny_handleBy_cons (codeAny_handlers_test ?_) (by intro q; cases q)
  have R3 := R.kp k3
  refine Name_function_global hkfn hxc (loadGlobal_global (by rw [R.globals]; exact B.g.keeps R3.base) hS ?_) hdc
  refine excMatches_sub (K := K) (X0.keeps R3.base) xS hmro (by obtain ⟨_, o, _, ho, hc, _⟩ := y3; exact ⟨o, ho, hc⟩) ?_
  show codeAny _ _ _ _ _
  refine codeAny_handlers_suite_as (wpAny_mono (flightFly k3 y3) (fun _ s4 hz3 => ?_) fun _ _ x => x)
  obtain ⟨k4, y4⟩ := hz3
  obtain ⟨hn0, o4, vs4, ho4, hc4, hd4, _⟩ := id y4
  have vr : VR B env oa s s4 (.ref ad) (.ct .fr (.exc c')) := ⟨ad, rfl, ⟨o4, C', vs4, ho4, hC', hc4, hd4⟩, hn0⟩
  refine wpAny_mono (storeVar R k4 vr hx rfl (by decide) hi) (fun _ s5 hz4 => ?_) fun _ _ x => x
  obtain ⟨R5, k5, o5, _⟩ := hz4
  have k45 : KpW B (FW env oa) s s5 := (Kp.toW k4).trans (k5.mono fun _ x => .inl x) fun _ x => .inl x
  have a5 : Ar B A n s5 := a.kp k45
  -- the slot of the name
  have sw : SWs B.loud F NoX n (ρ.set i (some (.own (.exc c')))) [.Return (some e2) rp] fun fl ρ' => fl = .ret (.im (wd c')) ∧ ρ' = ρ.set i (some (.own (.exc c'))) := by
    exact SWs.cons (SW.ret ((hf c' h1).mono fun r e => ⟨by rw [e], rfl⟩))
  refine wpAny_mono (sw.go env _ (A.mark (some (.ref ad))) s5 ⟨⟨l, hl⟩, hfr⟩ R5.loud (a5.loud _)) (fun fo s6 x6 => ?_) fun e' s6 x6 => ?_
  · obtain ⟨fl6, ρ6, oa6, h61, h62, R6, k6, o6⟩ := x6
    obtain ⟨rfl, rfl⟩ := h61
    cases fo with
    | ret v =>
      show wpAny _ A (do bindName env nm .none; unbindBehindTheSuite env nm hp) _ _ s6
      have k6' : KpW B (FW env oa) s s6 := k45.trans k6.unloud (FW.from o5)
      have R6' := R6.unloud
      refine wpAny_bind (wpAny_bindName (wpAny_mono (storeVar R6' (Kp.refl _) (r := .im .none) Im.none hx rfl (by decide) hi) (fun _ s7 hz5 => ?_) fun _ _ x => x))
      obtain ⟨R7, k7, o7, _⟩ := hz5
      obtain ⟨v7, hv7, _⟩ := R7.slots i nm .loc (.im .none) hx (by rw [List.getElem?_set_self (by simpa using hlen)])
      refine wpAny_mono (unbindVar R7 hx hv7) (fun _ s8 hz6 => ?_) fun _ _ x => x
      obtain ⟨R8, k8⟩ := hz6
      have k7' : KpW B (FW env oa) s s7 := k6'.trans (k7.mono fun _ x => .inl x) fun _ x => .inl x
      have k8' : KpW B (FW env oa) s s8 := k7'.trans (k8.mono fun _ x => .inl x) fun _ x => .inl x
      refine ⟨.ret (.im (wd c')), [], _, hw c' h1, ?_, R8, k8', (o5.trans k45 o6).trans k6' o7⟩
      exact Im.grow k8.tups (Im.grow k7.tups h62)
    | _ => exact h62.elim
  · obtain ⟨_, _, _, q, _⟩ := x6; exact q.elim

theorem SW.tryRetE {X1 : Str → Prop} {e e2 : Expr} {p1 pos hp rp cp : Pos} {c nm : Str} {Q : Fl → List (Option Sl) → Prop} (i : Nat) (hx : F.vars[i]? = some (nm, .loc)) (hi : i < F.own) (hlen : i < ρ.length)
    (hkc : F.scope.names.lookup c = some .globalImplicit) {K : Frag} (X0 : K.In B.hB) {S : Addr} (hS : B.mg c = some (.ref S)) (xS : XC K S)
    (hX : ∀ c', X1 c' → ∃ C', B.mg c' = some (.ref C') ∧ mroIn K C' (.ref S) = some true) (wd : Str → D) (hf : ∀ c', X1 c' → EW B.loud F NoX n (ρ.set i (some (.own (.exc c')))) e2 fun r => r = .im (wd c'))
    (hw : ∀ c', X1 c' → Q (.ret (.im (wd c'))) [])
    (h : EW B F X1 n ρ e fun r => Q (.ret r) ρ) (hdc : (c == ("__debug__" : Str)) = false := by decide) :
    SW B F X n ρ (.Try [.Return (some e) p1] [.ExceptHandler (some (.Name c cp)) (some nm) [.Return (some e2) rp] hp] [] [] pos) Q := .mk fun env oa A s hd R a =>
  wpAny_Try_except (wpAny_execs_cons (wpAny_Return_some (wpAny_mono (h.go env oa A s R a) (fun v s' hz7 => by obtain ⟨r, q, k, x⟩ := hz7; exact ⟨_, ρ, oa, q, x, R.kp k, k.toW, OwnFrom.refl _ _⟩)
    fun e s1 x => caughtE i hx hi hlen hkc X0 hS xS hX wd hf hw hdc hd R a x)))
end
end Mine
end

section
open PySem PySem.W PyProof.Rows PySem.Calls PyProof
set_option Elab.async false
set_option maxRecDepth 100000
set_option linter.unusedVariables false
namespace Mine
section
variable {B : Bs} {F : Fi} {X : Str → Prop} {n : Nat} {ρ : List (Option Sl)}
theorem CmpS.geS (a b : Str) : CmpS B n .GtE (.im (.str a)) (.im (.str b)) (sle b a) := fun env oa A s0 s vx vy E bs ar x y => by
  obtain ⟨t, rfl⟩ := x.str; obtain ⟨u, rfl⟩ := y.str
  refine PySem.P.ge_str ⟨?_, Kp.refl _⟩
  unfold sle
  rw [ltCps_eq]
theorem SubS.last {m : Md} {l : List D} {d : D} (hd : l.getLast? = some d) : SubS B n (.ct m (.lst l)) (.im (.int (-1))) (.im d) := fun env oa A s0 s vx vi value slice E b a x i hs => by
  obtain ⟨a, vs, rfl, h1, h2⟩ := x.lst
  obtain ⟨t, rfl⟩ := i.int
  have e : vs.size = l.length := by rw [← Array.length_toList]; exact h2.length
  have hd' : l[l.length - 1]? = some d := by rw [← List.getLast?_eq_getElem?]; exact hd
  have hne : 1 ≤ l.length := by
    cases l with
    | nil => cases hd
    | cons x l => simp
  obtain ⟨v, hv, hi⟩ := h2.get hd'
  have e2 : ((-1 : Int) + (vs.size : Int)).toNat = l.length - 1 := by (first | lia | omega)
  exact tail_any h1.typeIs slot_list_getitem.lookup (wpAny_getItem_list_neg h1 (by decide) (by (first | lia | omega)) (by decide) (by rw [e2]; simpa using hv) ⟨Kp.refl _, hi⟩) hs
theorem TruS.none : TruS B n (.im .none) false := fun env oa A s0 s vx E bs ar x => by
  rw [x.none]; exact PyProof.Rows.truthy_none ⟨rfl, Kp.refl _⟩
theorem BuiS.max2 (a b : Int) (hq : B.quiet = true := by assumption) : BuiS B n (.builtin "max") [.im (.int a), .im (.int b)] (.im (.int (if b > a then b else a))) := .two fun env oa A s0 s v u E bs ar x y => by
  obtain ⟨t, rfl⟩ := x.int; obtain ⟨t', rfl⟩ := y.int
  refine max_two_ints (ar.handled hq) fun h' tk hk => ⟨Kp.of hk, ?_⟩
  split
  · exact Im.int _ _
  · exact Im.int _ _
end
section
variable {prog : Program} {w : World} {A : Around} {R : Result → Shared → Prop} {I : Addr} {fp wr : List Addr} {N : Nat} {P : Nat → Value → Prop} {St : Nat → Heap → Prop} {kw : List (Str × Value)}
theorem maxName : (toString "max" ++ toString ".loop" : String) = "max.loop" := by decide
theorem maxLoop (W : Walks prog w A.in1 I fp wr N P St) (bt : Nat → Nat → Bool) (hcmp : CmpOf prog w A.in1 .Gt P bt) (S : Addr) (hSf : S ∉ fp) :
    ∀ (k j : Nat) (s : Shared) (vb : Value) (c : Nat), N - (j + 1) = k → j + 1 ≤ N → St (j + 1) s.heap → P (argBest bt j) vb →
    s.heap.get? S = some { cls := .type "list", dict := none, data := .seq #[vb, vb] c, slots := #[] } →
    (∀ v h' tk, P (argBest bt (N - 1)) v → (∀ b o, b ∉ wr → b ≠ S → s.heap.get? b = some o → h'.get? b = some o) → R (.ok (.ret v)) { s with heap := h', toks := tk }) →
    codeAny (model prog w) A (.builtin "max.loop" ⟨[.ref I, .none, .ref S], kw⟩) R s
  | 0, j, s, vb, c, hk, hj, hst, hb, hS, hR => by
    have hin : j + 1 = N := by (first | lia | omega)
    refine codeAny_builtin F.entry_max_loop ?_
    rw [Around.under_plainId F.plain_max_loop _]
    show wpAny _ A.in1 (seqItems? (.ref S) >>= _) _ _ s
    refine wpAny_bind (wpAny_seqItems hS rfl ?_)
    show wpAny _ A.in1 (tryCatch (pyNext (.ref I)) _ >>= _) _ _ s
    refine wpAny_bind (wpAny_tryCatch (W.done s _ _ (hin ▸ hst) fun h' tk hk' => ?_))
    have hS' := hk' S _ (fun h => hSf (W.sub _ h)) hS
    show wpAny _ A.in1 (updateSeq S (fun _ => #[]) >>= _) _ _ _
    refine wpAny_bind (wpAny_updateSeq hS' rfl (wpAny_bind (wpAny_letGo (wpAny_pure ?_))))
    exact hR vb _ tk (by rw [← hin]; exact hb) fun b o hbw hbS e => (Heap.get?_update_other _ _ (Ne.symm hbS)).trans (hk' b o hbw e)
  | k + 1, j, s, vb, c, hk, hj, hst, hb, hS, hR => by
    have hlt : j + 1 < N := by (first | lia | omega)
    refine codeAny_builtin F.entry_max_loop ?_
    rw [Around.under_plainId F.plain_max_loop _]
    show wpAny _ A.in1 (seqItems? (.ref S) >>= _) _ _ s
    refine wpAny_bind (wpAny_seqItems hS rfl ?_)
    show wpAny _ A.in1 (tryCatch (pyNext (.ref I)) _ >>= _) _ _ s
    refine wpAny_bind (wpAny_tryCatch (W.item (j + 1) s _ _ hlt hst fun v h' tk hP hst' hk' => ?_))
    have hS' := hk' S _ (fun h => hSf (W.sub _ h)) hS
    show wpAny _ A.in1 (tryCatch (holding [v, v] (richCompare .Gt v vb >>= _)) _ >>= _) _ _ _
    refine wpAny_bind (wpAny_tryCatch (wpAny_holding (wpAny_bind (hcmp (j + 1) (argBest bt j) v vb _ _ _ hP hb ?_))))
    refine wpAny_bind (wpAny_holding (wpAny_truthy_bool (wpAny_bind (wpAny_letGo (wpAny_pure ?_)))))
    cases hc : bt (j + 1) (argBest bt j) with
    | true =>
      simp only [if_true]
      refine wpAny_bind (wpAny_updateSeq hS' rfl (wpAny_bind (wpAny_letGo ?_)))
      rw [maxName]
      refine wpAny_pure ⟨plainId_quiet F.plain_max_loop _, maxLoop W bt hcmp S hSf k (j + 1) _ v _ (by (first | lia | omega)) hlt (W.frame _ _ _ hst' fun b hbf o e => ?_) (by simp only [argBest, hc, if_true]; exact hP) (Heap.get?_update_self _ hS' rfl)
        fun v' h'' tk'' hP' hk'' => ?_⟩
      · exact (Heap.get?_update_other _ _ (fun h : S = b => hSf (by rw [h]; exact hbf))).trans e
      · exact hR v' h'' tk'' hP' fun b o hbw hbS e => hk'' b o hbw hbS ((Heap.get?_update_other _ _ (Ne.symm hbS)).trans (hk' b o hbw e))
    | false =>
      simp only [Bool.false_eq_true, if_false]
      refine wpAny_bind (wpAny_letGo ?_)
      rw [maxName]
      refine wpAny_pure ⟨plainId_quiet F.plain_max_loop _, maxLoop W bt hcmp S hSf k (j + 1) _ vb c (by (first | lia | omega)) hlt hst' (by simp only [argBest, hc, Bool.false_eq_true, if_false]; exact hb) hS' fun v' h'' tk'' hP' hk'' => ?_⟩
      exact hR v' h'' tk'' hP' fun b o hbw hbS e => hk'' b o hbw hbS (hk' b o hbw e)
theorem argsMaxD (a v : Value) : argsOk "max" ⟨[a], [(Str.ofString "default", v)]⟩ := by unfold argsOk; kernel_rfl
end
section
variable {prog : Program} {w : World} {A : Around} {E : Value → Shared → Prop} {s : Shared} {l : Addr} {xs : Array (Int × Tok)}
theorem maxIntsD {Q : Value → Shared → Prop} {d : Value} (hh : A.handled = none) (hl : s.heap.IsList l (intItems xs))
    (h : ∀ v h' tk, (if xs.size = 0 then v = d else (intItems xs)[argBest (fun i j => decide (numAt xs i > numAt xs j)) (xs.size - 1)]? = some v) → (∀ b o, s.heap.get? b = some o → h'.get? b = some o) → Q v { s with heap := h', toks := tk }) :
    wpAny (model prog w) A (PySem.call (.builtin "max") [.ref l] [(Str.ofString "default", d)]) Q E s := by
  refine kmk_tree PySem.F.kind_max PySem.F.plain_max PySem.F.entry_max (argsMaxD _ _) ?_
  show wpAny _ A.in1 (Builtin.Builtins.bindParams "max" ["key", "default"] 0 ⟨[], [(Str.ofString "default", d)]⟩ >>= _) _ _ s
  refine wpAny_bind (wpAny_of_eq (show Builtin.Builtins.bindParams "max" ["key", "default"] 0 ⟨[], [(Str.ofString "default", d)]⟩ = pure [none, some d] from rfl) ?_)
  refine wpAny_bind (wpAny_pure ?_)
  refine wpAny_bind (iter_intList hl fun s₂ e st hfp hlI => ?_)
  refine wpAny_bind (wpAny_newObj_type ?_)
  have hold : ∀ {h' : Heap}, (∀ b o, b ∉ [s.heap.objs.size] → b ≠ s₂.heap.objs.size → (s₂.heap.push { cls := .type "list", data := .seq #[] }).get? b = some o → h'.get? b = some o) → ∀ b o, s.heap.get? b = some o → h'.get? b = some o := fun {h'} hk b o e1 => by
    have h2 : s₂.heap.get? b = some o := by subst e; exact Heap.get?_push_of_some _ e1
    refine hk b o (fun hm => ?_) (Nat.ne_of_lt (Heap.lt_size h2)) (Heap.get?_push_of_some _ h2)
    have := List.mem_singleton.mp hm
    exact absurd (this ▸ Heap.lt_size e1) (Nat.lt_irrefl _)
  have hSf : s₂.heap.objs.size ∉ [s.heap.objs.size, l] := fun hm => Nat.lt_irrefl _ (hfp _ hm)
  have W := Walks.list (prog := prog) (w := w) (A := A.in1) hh s.heap.objs.size l hlI (intItems xs)
  have hsz : (intItems xs).size = xs.size := by simp [intItems]
  rw [maxName]
  refine wpAny_pure ⟨plainId_quiet F.plain_max_loop _, ?_⟩
  have hst := W.frame 0 s₂.heap (s₂.heap.push { cls := .type "list", data := .seq #[] }) st fun b _ o e => Heap.get?_push_of_some _ e
  have hS : (s₂.heap.push { cls := .type "list", data := .seq #[] }).get? s₂.heap.objs.size = some { cls := .type "list", dict := none, data := .seq #[] 0, slots := #[] } := Heap.get?_push_size _ rfl
  refine codeAny_builtin F.entry_max_loop ?_
  rw [Around.under_plainId F.plain_max_loop _]
  show wpAny _ A.in1 (seqItems? (.ref s₂.heap.objs.size) >>= _) _ _ _
  refine wpAny_bind (wpAny_seqItems hS rfl ?_)
  show wpAny _ A.in1 (tryCatch (pyNext (.ref s.heap.objs.size)) _ >>= _) _ _ _
  by_cases hz : xs.size = 0
  · refine wpAny_bind (wpAny_tryCatch (W.done _ _ _ (by rw [hsz, hz]; exact hst) fun h' tk hk' => ?_))
    show wpAny _ A.in1 (rule _ >>= fun _ => ret d) _ _ _
    refine wpAny_bind (wpAny_rule (wpAny_pure ?_))
    have hq := h d h' tk (by rw [if_pos hz]) (hold fun b o h1 h2 h3 => hk' b o h1 h3)
    subst e
    exact hq
  · have hpos : 0 < (intItems xs).size := by (first | lia | omega)
    refine wpAny_bind (wpAny_tryCatch (W.item 0 _ _ _ hpos hst fun v h' tk hP hst' hk' => ?_))
    have hS' := hk' s₂.heap.objs.size _ (fun h => hSf (W.sub _ h)) hS
    show wpAny _ A.in1 (updateSeq s₂.heap.objs.size (fun _ => #[v, v]) >>= _) _ _ _
    refine wpAny_bind (wpAny_updateSeq hS' rfl ?_)
    rw [maxName]
    refine wpAny_pure ⟨plainId_quiet F.plain_max_loop _, maxLoop W (fun i j => decide (numAt xs i > numAt xs j)) (CmpOf.ints_gt (numAt xs) (fun _ _ => intItems_at)) s₂.heap.objs.size hSf _ 0 _ v _ rfl hpos (W.frame _ _ _ hst' fun b hbf o e => ?_) hP (Heap.get?_update_self _ hS' rfl) fun v' h'' tk'' hP' hk'' => ?_⟩
    · exact (Heap.get?_update_other _ _ (fun h : s₂.heap.objs.size = b => hSf (by rw [h]; exact hbf))).trans e
    · have hq := h v' h'' tk'' (by rw [if_neg hz, ← hsz]; exact hP') (hold fun b o h1 h2 h3 => hk'' b o h1 h2 ((Heap.get?_update_other _ _ (Ne.symm h2)).trans (hk' b o h1 h3)))
      subst e
      exact hq
end
noncomputable def maxN (is : List Int) : Int := is.foldl (fun a i => if i > a then i else a) 0
theorem argBest_max (val : Nat → Int) : ∀ k, val (argBest (fun i j => decide (val i > val j)) k) = (List.range k).foldl (fun a i => if val (i + 1) > a then val (i + 1) else a) (val 0)
  | 0 => rfl
  | k + 1 => by
    rw [List.range_succ, List.foldl_append, ← argBest_max val k]
    simp only [argBest, List.foldl_cons, List.foldl_nil, decide_eq_true_eq]
    split <;> rfl
theorem foldMax_range : ∀ (is : List Int) (a : Int), (List.range is.length).foldl (fun b i => if (is.getD i 0) > b then is.getD i 0 else b) a = is.foldl (fun a i => if i > a then i else a) a
  | [], a => rfl
  | i :: is, a => by
    rw [List.length_cons, List.range_succ_eq_map, List.foldl_cons, List.foldl_map, List.foldl_cons]
    exact foldMax_range is _
section
variable {B : Bs} {F : Fi} {X : Str → Prop} {n : Nat} {ρ : List (Option Sl)}
theorem bb_max : bootBuiltins "max" = some (.builtin "max") := by decide +kernel
theorem EW.maxD {p1 pos kp p2 : Pos} {e : Expr} {k} {Q : AV → Prop} (hk : F.scope.names.lookup (Str.ofString "max") = some .globalImplicit) (hm : B.mg (Str.ofString "max") = none)
    (h : LW B F X n ρ [e] fun rs => ∃ m is, rs = [.ct m (.lst (is.map .int))] ∧ (∀ i ∈ is, 0 ≤ i) ∧ Q (.im (.int (maxN is)))) (hq : B.quiet = true := by assumption)
    (he : ∀ env, starEach [e] env = [(false, eval e env)] := by intro _; rfl) :
    EW B F X n ρ (.Call (.Name (Str.ofString "max") p1) [e] [⟨some (Str.ofString "default"), .Constant (.int 0) k p2, kp⟩] pos) Q := by
  refine .mk ?_
  intro env oa A s R a
  refine wpAny_Call_Name_kw (loadBuiltin R hk hm bb_max ?_)
  refine callWith_kw (wpAny_mono (h.go env oa A s pos R a) (fun vs s1 hz => ?_) fun _ _ x => x) (by rw [he]; rfl) (by rw [he]; rfl)
  obtain ⟨rs, ⟨m, is, hr, h0, q⟩, k1, hl, hv⟩ := hz
  subst hr
  obtain ⟨v, rfl⟩ := len1 hl
  have x := hv 0 v _ rfl rfl
  refine kws_cons (wpAny_Constant_int ?_)
  refine kws_nil ?_
  obtain ⟨a', vs', rfl, h1, h2⟩ := x.lst
  obtain ⟨xs, e1, e2⟩ := h2.ints
  have ev : vs' = intItems xs.toArray := by apply Array.ext'; rw [e1]; simp [intItems]
  rw [ev] at h1
  have k2 : Kp B s1 { s1 with toks := s1.toks + 1 } := Kp.toks
  refine maxIntsD (a.handled hq) h1 fun v h' tk hv' hk' => ⟨_, q, (k1.trans k2).trans (Kp.of hk'), ?_⟩
  have hval : ∃ t, v = .int (maxN is) t := by
    by_cases hz : xs = []
    · subst hz
      rw [if_pos (by simp)] at hv'
      subst e2
      exact ⟨_, hv'⟩
    · rw [if_neg (by simpa using hz)] at hv'
      obtain ⟨t, ht⟩ := intItems_at hv'
      refine ⟨t, ?_⟩
      rw [ht, argBest_max (numAt xs.toArray)]
      cases xs with
      | nil => exact absurd rfl hz
      | cons p xs =>
        subst e2
        have e0 : numAt (p :: xs).toArray 0 = p.1 := by simp [numAt]
        have e3 : ∀ i, numAt (p :: xs).toArray (i + 1) = (xs.map (·.1)).getD i 0 := fun i => by
          simp [numAt, List.getD_eq_getElem?_getD]
        have e4 : (p :: xs).toArray.size - 1 = (xs.map (·.1)).length := by simp
        simp only [e0, e3, e4]
        rw [foldMax_range]
        unfold maxN
        rw [List.map_cons, List.foldl_cons]
        have : 0 ≤ p.1 := h0 _ (by simp)
        congr 2
        split
        · rfl
        · (first | lia | omega)
  obtain ⟨t, rfl⟩ := hval
  exact Im.int _ _
end
end Mine
end

section
open PySem PySem.W PyProof.Rows PySem.Calls PyProof
set_option Elab.async false
set_option maxRecDepth 100000
set_option linter.unusedVariables false
namespace Mine
section
variable (B : Bs) (F : Fi) (X : Str → Prop) (n : Nat) (ρ : List (Option Sl))
noncomputable def BinQ (op : Operator) (x : AV) (Q : AV → Prop) (y : AV) : Prop := ∃ z, BinS B n op x y z ∧ Q z
noncomputable def BinK (op : Operator) (r : Expr) (Q : AV → Prop) (x : AV) : Prop := EW B F X n ρ r (BinQ B n op x Q)
noncomputable def CmpQ (op : CmpOp) (x : AV) (Q : Bool → Prop) (y : AV) : Prop := ∃ z, CmpS B n op x y z ∧ Q z
noncomputable def CmpK (op : CmpOp) (r : Expr) (Q : Bool → Prop) (x : AV) : Prop := EW B F X n ρ r (CmpQ B n op x Q)
noncomputable def BoQ (Q : AV → Prop) (b : Bool) : Prop := Q (.im (.bool b))
noncomputable def UnQ (op : UnaryOp) (Q : AV → Prop) (x : AV) : Prop := ∃ z, UnS B n op x z ∧ Q z
noncomputable def TruQ (Q : Bool → Prop) (x : AV) : Prop := ∃ b, TruS B n x b ∧ Q b
noncomputable def LwQ (Q : List AV → Prop) (r : AV) (rs : List AV) : Prop := Q (r :: rs)
noncomputable def LwK (rest : List Expr) (Q : List AV → Prop) (r : AV) : Prop := LW B F X n ρ rest (LwQ Q r)
noncomputable def TupQ (Q : AV → Prop) (rs : List AV) : Prop := ∃ ds, Dats rs ds ∧ ds.length ≤ sizeLine ∧ Q (.im (.tup ds))
noncomputable def LstQ (Q : AV → Prop) (rs : List AV) : Prop := ∃ ds, Dats rs ds ∧ ds.length ≤ sizeLine ∧ Q (.ct .fr (.lst ds))
noncomputable def PrQ (Q : AV → Prop) (rs : List AV) : Prop := ∃ d m l, rs = [.im d, .ct m (.lst l)] ∧ Q (.ct m (.pair d l))
noncomputable def SubQ (x : AV) (Q : AV → Prop) (i : AV) : Prop := ∃ z, SubS B n x i z ∧ Q z
noncomputable def SubK (slice : Expr) (Q : AV → Prop) (x : AV) : Prop := EW B F X n ρ slice (SubQ B n x Q)
noncomputable def SlcU (x : AV) (l : Option Int) (Q : AV → Prop) (u : Option Int) : Prop := ∃ z, SlcS B n x l u z ∧ Q z
noncomputable def SlcL (hi : Option Expr) (x : AV) (Q : AV → Prop) (l : Option Int) : Prop := PW B F X n ρ hi (SlcU B n x l Q)
noncomputable def SlcK (lo hi : Option Expr) (Q : AV → Prop) (x : AV) : Prop := PW B F X n ρ lo (SlcL B F X n ρ hi x Q)
noncomputable def PwQ (Q : Option Int → Prop) (r : AV) : Prop := ∃ i, r = .im (.int i) ∧ Q (some i)
noncomputable def BuQ (fv : Value) (Q : AV → Prop) (rs : List AV) : Prop := ∃ z, BuiS B n fv rs z ∧ Q z
noncomputable def ReQ (Q : AV → Prop) (q : Rs) : Prop := Q q.av
noncomputable def CaQ (f : Str) (Q : AV → Prop) (rs : List AV) : Prop := Spec B f X n (rs.map AV.ag) (ReQ Q)
noncomputable def IsiQ (T : String) (Q : AV → Prop) (x : AV) : Prop := ∃ r, IsiS B n x T r ∧ Q (.im (.bool r))
noncomputable def AsgQ (i : Nat) (Q : Fl → List (Option Sl) → Prop) (r : AV) : Prop := ∃ sl, r.sl = some sl ∧ Q .next (ρ.set i (some sl))
noncomputable def AstQ (es : List Expr) (k : Nat) (tpos : Pos) (Q : Fl → List (Option Sl) → Prop) (r : AV) : Prop := ∃ d, r = .im d ∧ AsW B F n ρ (.Tuple es k tpos) d fun ρ2 => Q .next ρ2
noncomputable def AppQ (i : Nat) (l : List D) (mm : Option Addr) (Q : Fl → List (Option Sl) → Prop) (r : AV) : Prop := ∃ d, r = .im d ∧ l.length ≤ sizeLine ∧ Q .next (ρ.set i (some (.own (.lst (l ++ [d])) mm)))
noncomputable def RetQ (Q : Fl → List (Option Sl) → Prop) (r : AV) : Prop := Q (.ret r) ρ
noncomputable def Nx (rest : List Stmt) (Q : Fl → List (Option Sl) → Prop) (fl : Fl) (ρ' : List (Option Sl)) : Prop := match fl with
  | .next => SWs B F X n ρ' rest Q
  | fl => Q fl ρ'
noncomputable def LpQ (I : List D → List (Option Sl) → Prop) (rest : List D) (Q : Fl → List (Option Sl) → Prop) (fl : Fl) (ρ3 : List (Option Sl)) : Prop := match fl with
  | .next => I rest ρ3
  | .cont => I rest ρ3
  | .brk => Q .next ρ3
  | .ret r => Q (.ret r) ρ3
noncomputable def BdQ (body : List Stmt) (Q : Fl → List (Option Sl) → Prop) (ρ2 : List (Option Sl)) : Prop := SWs B F X n ρ2 body Q
noncomputable def ForQ (target : Expr) (body orelse : List Stmt) (Q : Fl → List (Option Sl) → Prop) (r : AV) : Prop :=
  ∃ ds, IterS B n r ds ∧ ∃ I : List D → List (Option Sl) → Prop, I ds ρ ∧
      (∀ d rest ρ', I (d :: rest) ρ' → AsW B F n ρ' target d (BdQ B F X n body (LpQ I rest Q))) ∧ (∀ ρ', I [] ρ' → SWs B F X n ρ' orelse Q)
noncomputable def WhQ (I : Nat → List (Option Sl) → Prop) (m : Nat) (Q : Fl → List (Option Sl) → Prop) (fl : Fl) (ρ3 : List (Option Sl)) : Prop := match fl with
  | .next => ∃ m', m' < m ∧ I m' ρ3
  | .cont => ∃ m', m' < m ∧ I m' ρ3
  | .brk => Q .next ρ3
  | .ret r => Q (.ret r) ρ3
noncomputable def At (ρ0 : List (Option Sl)) (fl : Fl) (ρ' : List (Option Sl)) : Prop := fl = .next ∧ ρ' = ρ0
end
section
variable {B : Bs} {F : Fi} {X : Str → Prop} {n : Nat} {ρ : List (Option Sl)}
theorem EW.binK {l op r pos} {Q : AV → Prop} (h : EW B F X n ρ l (BinK B F X n ρ op r Q)) : EW B F X n ρ (.BinOp l op r pos) Q := EW.bin h
theorem EW.cmpK {l op r pos} {Q : AV → Prop} (h : EW B F X n ρ l (CmpK B F X n ρ op r (BoQ Q))) (hm : behindInMarks op r = false := by with_unfolding_all rfl) : EW B F X n ρ (.Compare l [op] [r] pos) Q := EW.cmp h hm
theorem TW.cmpK {l op r pos} {Q : Bool → Prop} (h : EW B F X n ρ l (CmpK B F X n ρ op r Q)) (hm : behindInMarks op r = false := by with_unfolding_all rfl) : TW B F X n ρ (.Compare l [op] [r] pos) Q := TW.cmp h hm
theorem EW.unK {op x pos} {Q : AV → Prop} (h : EW B F X n ρ x (UnQ B n op Q)) : EW B F X n ρ (.UnaryOp op x pos) Q := EW.un h
theorem TW.valK {e : Expr} {Q : Bool → Prop} (h : EW B F X n ρ e (TruQ B n Q))
    (he : ∀ env whole, isTrue e env whole = (do let v ← whole; standAt e.pos; holding [v] (truthy v)) := by intros; rfl) : TW B F X n ρ e Q := TW.val h he
theorem LW.consK {e rest} {Q : List AV → Prop} (h : EW B F X n ρ e (LwK B F X n ρ rest Q))
    (he : ∀ env, starEach (e :: rest) env = (false, eval e env) :: starEach rest env := by intro _; rfl) : LW B F X n ρ (e :: rest) Q := LW.cons h he
theorem EW.tupleK {es k pos} {Q : AV → Prop} (h : LW B F X n ρ es (TupQ Q)) : EW B F X n ρ (.Tuple es k pos) Q := EW.tuple h
theorem EW.listK {es pos} {Q : AV → Prop} (h : LW B F X n ρ es (LstQ Q)) : EW B F X n ρ (.List es pos) Q := EW.list h
theorem EW.pairDK {e1 e2 : Expr} {k pos} {Q : AV → Prop} (h : LW B F X n ρ [e1, e2] (PrQ Q)) : EW B F X n ρ (.Tuple [e1, e2] k pos) Q := EW.pairD h
theorem EW.subK {value slice pos} {Q : AV → Prop} (h : EW B F X n ρ value (SubK B F X n ρ slice Q))
    (hs : ∀ o i, subscripted slice false o i = operate [o, i] (getItem o i) := by intros; rfl) : EW B F X n ρ (.Subscript value slice pos) Q := EW.sub h hs
theorem EW.sliceK {value lo hi p pos} {Q : AV → Prop} (h : EW B F X n ρ value (SlcK B F X n ρ lo hi Q)) : EW B F X n ρ (.Subscript value (.Slice lo hi none p) pos) Q := EW.slice h
theorem PW.someK {e} {Q : Option Int → Prop} (h : EW B F X n ρ e (PwQ Q)) : PW B F X n ρ (Option.some e) Q := PW.some h
theorem EW.bcallK {f : Str} {p1 : Pos} {e : Expr} {rest : List Expr} {pos : Pos} {Q : AV → Prop} {fv : Value} (hk : F.scope.names.lookup f = some .globalImplicit) (hm : B.mg f = none) (hb : bootBuiltins f = some fv) (hc : IsCallee fv)
    (h : LW B F X n ρ (e :: rest) (BuQ B n fv Q))
    (he : ∀ env, starEach (e :: rest) env = (false, eval e env) :: starEach rest env := by intro _; rfl) (hp : ∀ env, (backTo pos (starEach rest env)).any (·.1) = false := by intro _; rfl)
    (hn : f ≠ "__name__" := by decide) (hd : (f == ("__debug__" : Str)) = false := by decide) :
    EW B F X n ρ (.Call (.Name f p1) (e :: rest) [] pos) Q := EW.bcall hk hm hb hc h he hp hn hd
theorem EW.callK {f : Str} {p1 : Pos} {e : Expr} {rest : List Expr} {pos : Pos} {Q : AV → Prop} (hk : F.scope.names.lookup f = some .globalImplicit)
    (h : LW B F X n ρ (e :: rest) (CaQ B X n f Q))
    (hf0 : ∃ fa o fd, B.mg f = some (.ref fa) ∧ B.hB.get? fa = some o ∧ o.data = .func fd)
    (he : ∀ env, starEach (e :: rest) env = (false, eval e env) :: starEach rest env := by intro _; rfl) (hd : (f == ("__debug__" : Str)) = false := by decide) :
    EW B F X n ρ (.Call (.Name f p1) (e :: rest) [] pos) Q := EW.call hk h hf0 he hd
theorem EW.isiK {p1 p2 : Pos} {e : Expr} {t : Str} {pos : Pos} {Q : AV → Prop} {T : String} (hk : F.scope.names.lookup (Str.ofString "isinstance") = some .globalImplicit) (hm : B.mg (Str.ofString "isinstance") = none)
    (hk2 : F.scope.names.lookup t = some .globalImplicit) (hm2 : B.mg t = none) (hb2 : bootBuiltins t = some (.type T))
    (h : EW B F X n ρ e (IsiQ B n T Q)) (hb : bootBuiltins "isinstance" = some (.builtin "isinstance") := by decide +kernel)
    (he : ∀ env, starEach (e :: [.Name t p2]) env = (false, eval e env) :: starEach [.Name t p2] env := by intro _; rfl) (hn2 : t ≠ "__name__" := by decide) (hd2 : (t == ("__debug__" : Str)) = false := by decide) :
    EW B F X n ρ (.Call (.Name (Str.ofString "isinstance") p1) [e, .Name t p2] [] pos) Q := EW.isi hk hm hk2 hm2 hb2 h hb he hn2 hd2
theorem SWs.consK {st rest} {Q : Fl → List (Option Sl) → Prop} (h : SW B F X n ρ st (Nx B F X n rest Q)) : SWs B F X n ρ (st :: rest) Q := SWs.cons h
theorem SW.assignK {x pos' value pos} {Q : Fl → List (Option Sl) → Prop} (i : Nat) {k : Kd} (hx : F.vars[i]? = some (x, k)) (hkd : k ≠ .fre) (hi : i < F.own)
    (h : EW B F X n ρ value (AsgQ ρ i Q))
    (hs : ∀ env, swapsWith value (some (.Name x pos')) pos.line env = pure false := by intro _; rfl) : SW B F X n ρ (.Assign [.Name x pos'] value pos) Q := SW.assign i hx hkd hi h hs
theorem SW.assignTK {es k tpos value pos} {Q : Fl → List (Option Sl) → Prop} (h : EW B F X n ρ value (AstQ B F n ρ es k tpos Q))
    (hs : ∀ env, swapsWithSole [.Tuple es k tpos] value pos.line env = pure false := by intro _; rfl) (hw : ∀ env, swappedStores [.Tuple es k tpos] value env = pure none := by intro _; rfl) : SW B F X n ρ (.Assign [.Tuple es k tpos] value pos) Q := SW.assignT h hs hw
theorem SW.appendK {x : Str} {p apos pos spos : Pos} {e : Expr} {Q : Fl → List (Option Sl) → Prop} {l : List D} {mm : Option Addr} (i : Nat) {k : Kd} (hx : F.vars[i]? = some (x, k)) (hs : ρ[i]? = some (some (.own (.lst l) mm)))
    (h : EW B F X n ρ e (AppQ ρ i l mm Q))
    (hline : (apos.endLine == pos.line) = true := by rfl) (htr : ∀ env, backTo pos (starEach [e] env) = [(false, eval e env)] := by intro _; rfl) :
    SW B F X n ρ (.Expr (.Call (.Attribute (.Name x p) "append" apos) [e] [] pos) spos) Q := SW.append i hx hs h hline htr
theorem SW.retK {e pos} {Q : Fl → List (Option Sl) → Prop} (h : EW B F X n ρ e (RetQ ρ Q)) : SW B F X n ρ (.Return (some e) pos) Q := SW.ret h
theorem SW.forK {target iter : Expr} {body orelse : List Stmt} {pos : Pos} {Q : Fl → List (Option Sl) → Prop} (h : EW B F X n ρ iter (ForQ B F X n ρ target body orelse Q))
    (hs : ∀ env x, foldedSetIterable iter env x = pure x := by intros; rfl) (hq : B.quiet = true := by assumption) : SW B F X n ρ (.For target iter body orelse pos) Q := SW.for_ h hs hq
theorem SW.whileK {test : Expr} {body orelse : List Stmt} {pos : Pos} {Q : Fl → List (Option Sl) → Prop} (I : Nat → List (Option Sl) → Prop) (m0 : Nat) (h0 : I m0 ρ)
    (h : ∀ m ρ', I m ρ' → TW B F X n ρ' test fun b => if b = true then SWs B F X n ρ' body (WhQ I m Q) else SWs B F X n ρ' orelse Q) : SW B F X n ρ (.While test body orelse pos) Q := SW.while_ I m0 h0 h
noncomputable def Is (r q : Rs) : Prop := q = r
theorem Spec.eq {f ags} {r : Rs} {Q' : Rs → Prop} (h : Spec B f NoX n ags fun q => q = r) (hm : Q' r) {m : Nat} (hn : n ≤ m) : Spec B f NoX m ags Q' := h.mono hn (fun q e => by rw [e]; exact hm) (fun _ x => x)
end
theorem em0 (a : Int) {b : Int} (h : 0 < b := by decide) : 0 ≤ a % b := Int.emod_nonneg a (Int.ne_of_gt h)
theorem em1 (a : Int) {b : Int} (h : 0 < b := by decide) : a % b < b := Int.emod_lt_of_pos a h
theorem em63 (a : Int) {b : Int} (h : 0 < b := by decide) (hb : b ≤ 2 ^ 63 := by decide) : a % b < 2 ^ 63 := Int.lt_of_lt_of_le (em1 a h) hb
theorem em62 (a : Int) {b : Int} (h : 0 < b := by decide) (hb : b ≤ 2 ^ 62 := by decide) : a % b < 2 ^ 62 := Int.lt_of_lt_of_le (em1 a h) hb
theorem em62l (a : Int) {b : Int} (h : 0 < b := by decide) : -(2 ^ 62) ≤ a % b := Int.le_trans (by decide) (em0 a h)
theorem emT (a : Int) {b : Int} (h : 0 < b := by decide) : (a % b).toNat < b.toNat := (Int.toNat_lt_toNat h).mpr (em1 a h)
theorem nn (a : Nat) : 0 ≤ (a : Int) := Int.natCast_nonneg a
theorem lt63 {a : Nat} (h : a < 2 ^ 20) : (a : Int) < 2 ^ 63 := Int.lt_of_lt_of_le (Int.ofNat_lt.mpr h) (by decide)
theorem m63 {ws : List Str} (h : ws.length < 2 ^ 20) : (ws.map D.str).length < 2 ^ 63 := by rw [List.length_map]; exact Nat.lt_trans h (by decide)
theorem msz {ws : List Str} (h : ws.length < 2 ^ 20) : (ws.map D.str).length ≤ sizeLine := by rw [List.length_map]; exact Nat.le_trans (Nat.le_of_lt h) (by decide)
theorem le_sz {a b : Nat} (h : a ≤ b) (hb : b ≤ 16777216 := by decide) : a ≤ sizeLine := Nat.le_trans h (Nat.le_trans hb (by decide))
end Mine
end

section
open PySem PySem.W PyProof.Rows PyProof
set_option linter.unusedVariables false
namespace Mine
noncomputable def pD (p : Str × Int) : D := .tup [.str p.1, .int p.2]
end Mine
end

section
open PySem PySem.W PyProof.Rows PyProof
set_option linter.unusedVariables false
namespace Mine
theorem foldl_rep (x : Array Nat) : ∀ (n : Nat) (acc : Array Nat), ((List.replicate n x).foldl (· ++ ·) acc).size = acc.size + n * x.size
  | 0, acc => by simp
  | n + 1, acc => by rw [List.replicate_succ, List.foldl_cons, foldl_rep x n, Array.size_append, Nat.add_one_mul]; (first | lia | omega)
theorem mul_length {x : Str} {n : Int} (h : 1 ≤ n) : (Txt.mul x n).length = n.toNat * x.length := by
  unfold Txt.mul
  rw [if_neg (by (first | lia | omega))]
  split
  · rename_i q
    simp only [Bool.or_eq_true, beq_iff_eq] at q
    rcases q with rfl | q
    · simp
    · simp [q]
  · show Array.size _ = _
    rw [foldl_rep]; simp [Str.length]
theorem slice1 {x : Str} (h : 1 ≤ x.length) : (Txt.slice x none (some 1)).length = 1 := by
  unfold Txt.slice
  have e : PySem.Builtin.Str.strSliceIndices none (some 1) 1 x.length = [0] := by
    unfold PySem.Builtin.Str.strSliceIndices sliceRange
    have : max (0 : Int) (min 1 (x.length : Int)) = 1 := by (first | lia | omega)
    simp [this]
  rw [e]
  split
  · rename_i q; simp at q; (clear h; (first | lia | omega))
  · show ([0].filterMap (x.cps[·]?)).toArray.size = 1
    have : x.cps[0]? = some x.cps[0] := Array.getElem?_eq_getElem (by unfold Str.length at h; (first | lia | omega))
    simp [this]
theorem nodup4 {α : Type} {f : Int → α} (h : ∀ i j : Int, 0 ≤ i → i < j → j < 4 → f i ≠ f j) : [f 0, f 1, f 2, f 3].Nodup := by
  have h01 := h 0 1 (by decide) (by decide) (by decide)
  have h02 := h 0 2 (by decide) (by decide) (by decide)
  have h03 := h 0 3 (by decide) (by decide) (by decide)
  have h12 := h 1 2 (by decide) (by decide) (by decide)
  have h13 := h 1 3 (by decide) (by decide) (by decide)
  have h23 := h 2 3 (by decide) (by decide) (by decide)
  simp [h01, h02, h03, h12, h13, h23]
noncomputable def nmA (w : Str) (q k : Int) : Str := Txt.mul w (1 + (k + q) % 8)
theorem nmA_nodup {w : Str} {q : Int} (hw : w.length = 1) : [nmA w q 0, nmA w q 1, nmA w q 2, nmA w q 3].Nodup := by
  refine nodup4 (f := nmA w q) fun i j h0 h1 h2 e => ?_
  have := congrArg Str.length e
  unfold nmA at this
  rw [mul_length (by (clear this h2 h1 h0 hw; (first | lia | omega))), mul_length (by (clear this h2 h1 h0 hw; (first | lia | omega))), hw] at this
  (clear hw; (first | lia | omega))
noncomputable def nmC (a b : Str) (q k : Int) : Str := a ++ (⟨#[97 + ((q + 7 * k) % 26).toNat]⟩ : Str) ++ b
theorem nmC_nodup {a b : Str} {q : Int} : [nmC a b q 0, nmC a b q 1, nmC a b q 2, nmC a b q 3].Nodup := by
  refine nodup4 (f := nmC a b q) fun i j h0 h1 h2 e => ?_
  have e2 := congrArg Str.cps e
  have e3 : (a.cps ++ #[97 + ((q + 7 * i) % 26).toNat] ++ b.cps).toList = (a.cps ++ #[97 + ((q + 7 * j) % 26).toNat] ++ b.cps).toList := congrArg Array.toList e2
  simp at e3
  (first | lia | omega)
noncomputable def usualL : List Str := ["new", "k", "t", "x", "y", "z", "step", "size", "bound", "some", "and", "above", "nought", "goes", "not", "or", "all", "far", "low", "high", "name", "newone", "number", "it", "lined"]
theorem usual_nodup : usualL.Nodup := by decide +kernel
noncomputable def offs : Int → Int
  | 0 => 0
  | 1 => 7
  | 2 => 12
  | _ => 18
noncomputable def nmB (q k : Int) : Str := (usualL[((q + offs k) % 25).toNat]?).getD default
theorem mod25 {q a b : Int} (h : (q + a) % 25 = (q + b) % 25) : (a - b) % 25 = 0 := by (first | lia | omega)
theorem nmB_nodup {q : Int} : [nmB q 0, nmB q 1, nmB q 2, nmB q 3].Nodup := by
  have key : ∀ i j : Int, nmB q i = nmB q j → (offs i - offs j) % 25 = 0 := fun i j e => by
    have l : usualL.length = 25 := rfl
    have b : ∀ k, 0 ≤ (q + offs k) % 25 ∧ (q + offs k) % 25 < 25 := fun k => ⟨Int.emod_nonneg _ (by decide), Int.emod_lt_of_pos _ (by decide)⟩
    have b' : ∀ k, ((q + offs k) % 25).toNat < usualL.length := fun k => by rw [l]; have := b k; (clear l; (first | lia | omega))
    unfold nmB at e
    rw [List.getElem?_eq_getElem (b' i), List.getElem?_eq_getElem (b' j)] at e
    have := (List.getElem_inj usual_nodup).mp e
    have h1 := b i
    have h2 := b j
    exact mod25 (q := q) (by (clear l; (first | lia | omega)))
  have no : ∀ i j : Int, (offs i - offs j) % 25 ≠ 0 → nmB q i ≠ nmB q j := fun i j h e => h (key i j e)
  simp [no 0 1 (by decide), no 0 2 (by decide), no 0 3 (by decide), no 1 2 (by decide), no 1 3 (by decide), no 2 3 (by decide)]
theorem mem4l {α : Type} {P : α → Prop} {a b c d : α} (ha : P a) (hb : P b) (hc : P c) (hd : P d) : ∀ s ∈ [a, b, c, d], P s := by
  intro s hs
  rcases List.mem_cons.mp hs with rfl | hs
  · exact ha
  rcases List.mem_cons.mp hs with rfl | hs
  · exact hb
  rcases List.mem_cons.mp hs with rfl | hs
  · exact hc
  rcases List.mem_cons.mp hs with rfl | hs
  · exact hd
  cases hs
theorem mulOk1 {x : Str} {m : Int} (hx : x.length = 1) (h1 : 1 ≤ m) (h8 : m ≤ 8) : MulOk x m := by
  refine ⟨?_, fun _ _ => ?_, fun _ _ => ?_⟩
  · simp; (clear hx; (first | lia | omega))
  · rw [hx]
    exact Int.not_lt.mpr (Int.le_ediv_of_mul_le (by (clear hx; (first | lia | omega))) (by (clear hx; (first | lia | omega))))
  · rw [hx]
    have : 1 * m.toNat ≤ sizeLine := Nat.le_trans (show _ ≤ 8 by (clear hx; (first | lia | omega))) (by decide)
    unfold PySem.Builtin.Str.tooLong
    simpa using this
theorem letters_at : ∀ j : Nat, j < 26 → ("abcdefghijklmnopqrstuvwxyz" : Str).cps[j]? = some (97 + j) := by decide +kernel
end Mine
end

section
open PySem PySem.W PyProof.Rows PyProof
set_option linter.unusedVariables false
namespace Mine
noncomputable def sumD (k : Int) (ps : List (Str × Int)) : D := .tup [.int k, .tup (ps.map pD)]
structure Good (ss : List Str) (ps : List (Str × Int)) : Prop where
  inc : (ps.map (·.1)).Pairwise fun a b => sle b a = false
  nz : ∀ p ∈ ps, p.2 ≠ 0
  mem : ∀ p ∈ ps, p.1 ∈ ss
theorem strict {ks : List Str} (h : ks.Pairwise fun a b => sle a b = true) (nd : ks.Nodup) : ks.Pairwise fun a b => sle b a = false := by
  refine List.Pairwise.imp₂ (fun a b h1 h2 => ?_) h nd
  cases q : sle b a with
  | false => rfl
  | true => exact absurd (sle_anti h1 q) h2
theorem sle_refl (a : Str) : sle a a = true := by have := sle_total a a; simpa using this
theorem strict_nodup {ks : List Str} (h : ks.Pairwise fun a b => sle b a = false) : ks.Nodup := h.imp fun {a b} q e => by subst e; rw [sle_refl] at q; cases q
noncomputable def nxt (n : Int) : Int := (n * 48271 + 11) % 2147483647
noncomputable def sumL (wide : Int) : Int → List Str → List (Str × Int)
  | _, [] => []
  | n, nm :: r => if nxt n / 7 % (2 * wide + 1) - wide ≠ 0 then (nm, nxt n / 7 % (2 * wide + 1) - wide) :: sumL wide (nxt n) r else sumL wide (nxt n) r
noncomputable def sumN : Int → List Str → Int
  | n, [] => n
  | n, _ :: r => sumN (nxt n) r
theorem sumL_sub (wide : Int) : ∀ (l : List Str) (n : Int), ((sumL wide n l).map (·.1)).Sublist l
  | [], n => .slnil
  | nm :: r, n => by
    unfold sumL
    split
    · exact (sumL_sub wide r (nxt n)).cons_cons _
    · exact (sumL_sub wide r (nxt n)).cons _
theorem sumL_nz (wide : Int) : ∀ (l : List Str) (n : Int), ∀ p ∈ sumL wide n l, p.2 ≠ 0
  | [], n, p, hp => by cases hp
  | nm :: r, n, p, hp => by
    unfold sumL at hp
    split at hp
    · rename_i q
      rcases List.mem_cons.mp hp with rfl | hp
      · exact q
      · exact sumL_nz wide r _ p hp
    · exact sumL_nz wide r _ p hp
theorem sumL_bd {wide : Int} (hw : 0 ≤ wide) : ∀ (l : List Str) (n : Int), ∀ p ∈ sumL wide n l, -wide ≤ p.2 ∧ p.2 ≤ wide
  | [], n, p, hp => by cases hp
  | nm :: r, n, p, hp => by
    have hb : -wide ≤ nxt n / 7 % (2 * wide + 1) - wide ∧ nxt n / 7 % (2 * wide + 1) - wide ≤ wide := by
      have h1 := Int.emod_nonneg (nxt n / 7) (show 2 * wide + 1 ≠ 0 by (clear hw; (first | lia | omega)))
      have h2 := Int.emod_lt_of_pos (nxt n / 7) (show 0 < 2 * wide + 1 by (clear h1; (first | lia | omega)))
      (clear hw; (first | lia | omega))
    unfold sumL at hp
    split at hp
    · rcases List.mem_cons.mp hp with rfl | hp
      · exact hb
      · exact sumL_bd hw r _ p hp
    · exact sumL_bd hw r _ p hp
theorem Good.sum {ss names : List Str} {wide n : Int} (nd : names.Nodup) (hs : ∀ x ∈ names, x ∈ ss) : Good ss (sumL wide n (srt names)) := by
  have st := strict (srt_sorted names) ((srt_perm _).nodup_iff.mpr nd)
  refine ⟨st.sublist (sumL_sub wide _ _), sumL_nz wide _ _, fun p hp => hs _ ((srt_perm names).mem_iff.mp ((sumL_sub wide _ _).subset (List.mem_map.mpr ⟨p, hp, rfl⟩)))⟩
end Mine
end

section
open PySem PySem.W PyProof.Rows PyProof
set_option linter.unusedVariables false
namespace Mine
mutual
inductive St where
  | above (k : Int) (ps : List (Str × Int))
  | nought (k : Int) (ps : List (Str × Int))
  | goes (m k : Int) (ps : List (Str × Int))
  | neg (s : St)
  | conn (a : Bool) (l : Sts)
  | bind (e : Bool) (nm : Str) (s : St)
inductive Sts where
  | nil
  | cons (s : St) (l : Sts)
end
noncomputable def Sts.All (P : St → Prop) : Sts → Prop
  | .nil => True
  | .cons s l => P s ∧ l.All P
mutual
theorem St.ind {P : St → Prop} (h1 : ∀ k ps, P (.above k ps)) (h2 : ∀ k ps, P (.nought k ps)) (h3 : ∀ m k ps, P (.goes m k ps)) (h4 : ∀ s, P s → P (.neg s)) (h5 : ∀ a l, l.All P → P (.conn a l)) (h6 : ∀ e nm s, P s → P (.bind e nm s)) : ∀ s, P s
  | .above k ps => h1 k ps
  | .nought k ps => h2 k ps
  | .goes m k ps => h3 m k ps
  | .neg s => h4 s (St.ind h1 h2 h3 h4 h5 h6 s)
  | .conn a l => h5 a l (Sts.ind h1 h2 h3 h4 h5 h6 l)
  | .bind e nm s => h6 e nm s (St.ind h1 h2 h3 h4 h5 h6 s)
theorem Sts.ind {P : St → Prop} (h1 : ∀ k ps, P (.above k ps)) (h2 : ∀ k ps, P (.nought k ps)) (h3 : ∀ m k ps, P (.goes m k ps)) (h4 : ∀ s, P s → P (.neg s)) (h5 : ∀ a l, l.All P → P (.conn a l)) (h6 : ∀ e nm s, P s → P (.bind e nm s)) : ∀ l : Sts, l.All P
  | .nil => trivial
  | .cons s l => ⟨St.ind h1 h2 h3 h4 h5 h6 s, Sts.ind h1 h2 h3 h4 h5 h6 l⟩
end
noncomputable def cw (a : Bool) : Str := if a then "and" else "or"
noncomputable def bw (a : Bool) : Str := if a then "some" else "all"
mutual
noncomputable def St.d : St → D
  | .above k ps => .tup [.str "above", sumD k ps]
  | .nought k ps => .tup [.str "nought", sumD k ps]
  | .goes m k ps => .tup [.str "goes", .int m, sumD k ps]
  | .neg s => .tup [.str "not", s.d]
  | .conn a l => .tup [.str (cw a), .tup l.ds]
  | .bind e nm s => .tup [.str (bw e), .str nm, s.d]
noncomputable def Sts.ds : Sts → List D
  | .nil => []
  | .cons s l => s.d :: l.ds
end
noncomputable def Sts.len : Sts → Nat
  | .nil => 0
  | .cons _ l => l.len + 1
theorem Sts.ds_len : ∀ l : Sts, l.ds.length = l.len
  | .nil => rfl
  | .cons s l => by simp [Sts.ds, Sts.len, Sts.ds_len l]
mutual
noncomputable def St.dp : St → Nat
  | .neg s => s.dp + 1
  | .conn _ l => l.dp + 1
  | .bind _ _ s => s.dp + 1
  | _ => 0
noncomputable def Sts.dp : Sts → Nat
  | .nil => 0
  | .cons s l => max s.dp l.dp
end
structure GS (ss : List Str) (M : Nat) (k : Int) (ps : List (Str × Int)) : Prop where
  good : Good ss ps
  bd : ∀ p ∈ ps, p.2.natAbs ≤ M
  kb : k.natAbs ≤ M
mutual
noncomputable def St.Gd (ss : List Str) (M : Nat) : St → Prop
  | .above k ps => GS ss M k ps
  | .nought k ps => GS ss M k ps
  | .goes m k ps => (0 < m ∧ m.natAbs ≤ M) ∧ GS ss M k ps
  | .neg s => s.Gd ss M
  | .conn _ l => l.len ≤ 30 ∧ l.Gd ss M
  | .bind _ nm s => nm ∈ ss ∧ s.Gd ss M
noncomputable def Sts.Gd (ss : List Str) (M : Nat) : Sts → Prop
  | .nil => True
  | .cons s l => s.Gd ss M ∧ l.Gd ss M
end
theorem Sts.All.imp {P Q : St → Prop} (h : ∀ s, P s → Q s) : ∀ {l : Sts}, l.All P → l.All Q
  | .nil, _ => trivial
  | .cons s l, ⟨h1, h2⟩ => ⟨h s h1, Sts.All.imp h h2⟩
theorem nodup_len : ∀ {l m : List Str}, l.Nodup → (∀ x ∈ l, x ∈ m) → l.length ≤ m.length
  | [], m, _, _ => Nat.zero_le _
  | a :: l, m, h, hs => by
    rw [List.nodup_cons] at h
    have ha := hs a List.mem_cons_self
    have := nodup_len (l := l) (m := m.erase a) h.2 fun x hx => (List.mem_erase_of_ne (show x ≠ a from fun e => h.1 (e ▸ hx))).mpr (hs x (List.mem_cons_of_mem _ hx))
    rw [List.length_erase_of_mem ha] at this
    have hp := List.length_pos_of_mem ha
    rw [List.length_cons]; (first | lia | omega)
end Mine
end

section
open PySem PySem.W PyProof.Rows PyProof
set_option linter.unusedVariables false
namespace Mine
noncomputable def sumK (c : Int) (names : List Str) : Int := nxt (sumN c (srt names)) / 7 % 19 - 9
noncomputable def endSt (c : Int) (names : List Str) (wide most : Int) : St :=
  if c % 4 = 3 then .nought (sumK (c / 12) names) (sumL wide (c / 12) (srt names))
  else if c % 4 = 2 then .goes (1 + c / 4 % most) (sumK (c / 12) names) (sumL wide (c / 12) (srt names))
  else .above (sumK (c / 12) names) (sumL wide (c / 12) (srt names))
noncomputable def l1 (a : St) : Sts := .cons a .nil
noncomputable def l2 (a b : St) : Sts := .cons a (.cons b .nil)
noncomputable def l3 (a b c : St) : Sts := .cons a (.cons b (.cons c .nil))
noncomputable def rep (e : St) : Nat → Sts
  | 0 => .nil
  | n + 1 => .cons e (rep e n)
noncomputable def yes : St := .conn true .nil
noncomputable def no : St := .conn false .nil
noncomputable def w01 (c : Int) (e m : St) : St := if c % 9 < 2 then .conn (decide (c % 9 = 0)) (l2 m e) else m
noncomputable def w2 (c : Int) (e m : St) : St := if c % 9 = 2 then .conn false (l2 (.neg m) e) else m
noncomputable def w3 (c : Int) (e m : St) : St := if c % 9 = 3 then .neg (.conn true (l3 e m yes)) else m
noncomputable def w4 (c : Int) (e m : St) : St := if c % 9 = 4 then .conn true (l2 (.conn false (l2 e m)) (.neg e)) else m
noncomputable def w5 (c : Int) (e m : St) : St := if c % 9 = 5 then .conn false (l3 e no m) else m
noncomputable def w6 (c : Int) (e m : St) : St := if c % 9 = 6 then .conn true (l2 (.neg (.neg m)) (.neg e)) else m
noncomputable def w7 (c : Int) (e m : St) : St := if c % 9 = 7 then .conn true (l2 (.conn false (l1 m)) (.conn false (l1 (.conn true (l1 e))))) else m
noncomputable def w8 (c : Int) (e m : St) : St := if c % 9 = 8 then .conn (decide (c / 9 % 2 = 0)) (.cons e (.cons e (.cons m (rep e (1 + c / 18 % 18).toNat)))) else m
noncomputable def stepSt (c : Int) (e m : St) : St := w8 c e (w7 c e (w6 c e (w5 c e (w4 c e (w3 c e (w2 c e (w01 c e m)))))))
theorem rep_len (e : St) : ∀ n, (rep e n).len = n
  | 0 => rfl
  | n + 1 => by simp [rep, Sts.len, rep_len e n]
theorem rep_ds (e : St) : ∀ n, (rep e n).ds = List.replicate n e.d
  | 0 => rfl
  | n + 1 => by rw [rep, Sts.ds, rep_ds e n]; rfl
structure Kept (P : St → Prop) : Prop where
  neg : ∀ s, P s → P (.neg s)
  conn : ∀ a l, l.len ≤ 22 → l.All P → P (.conn a l)
theorem Kept.rep {P : St → Prop} {e : St} (he : P e) : ∀ n, (rep e n).All P
  | 0 => trivial
  | n + 1 => ⟨he, Kept.rep he n⟩
theorem Kept.step {P : St → Prop} (k : Kept P) {c : Int} {e m : St} (he : P e) (hm : P m) : P (stepSt c e m) := by
  have hy : P yes := k.conn true .nil (Nat.zero_le _) trivial
  have hn : P no := k.conn false .nil (Nat.zero_le _) trivial
  have h1 : ∀ {m}, P m → P (w01 c e m) := fun {m} hm => by
    unfold w01; split
    · exact k.conn _ _ (show 2 ≤ 22 by decide) ⟨hm, he, trivial⟩
    · exact hm
  have h2 : ∀ {m}, P m → P (w2 c e m) := fun {m} hm => by
    unfold w2; split
    · exact k.conn _ _ (show 2 ≤ 22 by decide) ⟨k.neg _ hm, he, trivial⟩
    · exact hm
  have h3 : ∀ {m}, P m → P (w3 c e m) := fun {m} hm => by
    unfold w3; split
    · exact k.neg _ (k.conn _ _ (show 3 ≤ 22 by decide) ⟨he, hm, hy, trivial⟩)
    · exact hm
  have h4 : ∀ {m}, P m → P (w4 c e m) := fun {m} hm => by
    unfold w4; split
    · exact k.conn _ _ (show 2 ≤ 22 by decide) ⟨k.conn _ _ (show 2 ≤ 22 by decide) ⟨he, hm, trivial⟩, k.neg _ he, trivial⟩
    · exact hm
  have h5 : ∀ {m}, P m → P (w5 c e m) := fun {m} hm => by
    unfold w5; split
    · exact k.conn _ _ (show 3 ≤ 22 by decide) ⟨he, hn, hm, trivial⟩
    · exact hm
  have h6 : ∀ {m}, P m → P (w6 c e m) := fun {m} hm => by
    unfold w6; split
    · exact k.conn _ _ (show 2 ≤ 22 by decide) ⟨k.neg _ (k.neg _ hm), k.neg _ he, trivial⟩
    · exact hm
  have h7 : ∀ {m}, P m → P (w7 c e m) := fun {m} hm => by
    unfold w7; split
    · exact k.conn _ _ (show 2 ≤ 22 by decide) ⟨k.conn _ _ (show 1 ≤ 22 by decide) ⟨hm, trivial⟩, k.conn _ _ (show 1 ≤ 22 by decide) ⟨k.conn _ _ (show 1 ≤ 22 by decide) ⟨he, trivial⟩, trivial⟩, trivial⟩
    · exact hm
  have h8 : ∀ {m}, P m → P (w8 c e m) := fun {m} hm => by
    unfold w8; split
    · refine k.conn _ _ ?_ ⟨he, he, hm, Kept.rep he _⟩
      simp only [Sts.len, rep_len]; (first | lia | omega)
    · exact hm
  exact h8 (h7 (h6 (h5 (h4 (h3 (h2 (h1 hm)))))))
noncomputable def cellAt (is : List Int) (k : Int) : Int := if k < is.length then is.getD k.toNat 0 else 0
noncomputable def plainC (is : List Int) (first k : Int) : Int := cellAt is (first + k) + 104729 * k
noncomputable def plainGo (is : List Int) (first : Int) (names : List Str) (wide most : Int) : Int → Nat → St → St
  | _, 0, m => m
  | k, j + 1, m => plainGo is first names wide most (k + 1) j (stepSt (plainC is first k) (endSt (plainC is first k / 9) names wide most) m)
noncomputable def plainN (is : List Int) (first : Int) (names : List Str) : List Str := if cellAt is first % 13 = 12 then [] else names
noncomputable def plainSt (is : List Int) (first count : Int) (names : List Str) (wide most : Int) : St :=
  if cellAt is first % 26 = 25 then yes
  else plainGo is first (plainN is first names) wide most 1 (count - 1).toNat (endSt (cellAt is first) (plainN is first names) wide most)
theorem Kept.go {P : St → Prop} (k : Kept P) {is : List Int} {first wide most : Int} {names : List Str} (he : ∀ c, P (endSt c names wide most)) : ∀ (j : Nat) (i : Int) (m : St), P m → P (plainGo is first names wide most i j m)
  | 0, i, m, hm => hm
  | j + 1, i, m, hm => Kept.go k he j (i + 1) _ (k.step (he _) hm)
theorem Kept.plain {P : St → Prop} (k : Kept P) {is : List Int} {first count wide most : Int} {names : List Str} (he : ∀ c, P (endSt c names wide most)) (he0 : ∀ c, P (endSt c [] wide most)) : P (plainSt is first count names wide most) := by
  unfold plainSt
  split
  · exact k.conn true .nil (Nat.zero_le _) trivial
  · unfold plainN
    split
    · exact k.go he0 _ _ _ (he0 _)
    · exact k.go he _ _ _ (he _)
theorem Sts.Gd.of {ss : List Str} {M : Nat} : ∀ {l : Sts}, l.All (fun s => s.Gd ss M) → l.Gd ss M
  | .nil, _ => trivial
  | .cons s l, h => ⟨h.1, Sts.Gd.of h.2⟩
theorem Kept.gd (ss : List Str) (M : Nat) : Kept fun s => s.Gd ss M := ⟨fun s h => h, fun a l hl h => ⟨Nat.le_trans hl (by decide), Sts.Gd.of h⟩⟩
theorem sumK_bd (c : Int) (names : List Str) : (sumK c names).natAbs ≤ 10 := by unfold sumK; (first | lia | omega)
theorem end_gd {ss names : List Str} {c wide most : Int} {M : Nat} (nd : names.Nodup) (hs : ∀ x ∈ names, x ∈ ss) (hw : 0 ≤ wide) (hwM : wide.natAbs ≤ M) (hm : 0 < most) (hM : most.natAbs ≤ M) (hM10 : 10 ≤ M) : (endSt c names wide most).Gd ss M := by
  have g : GS ss M (sumK (c / 12) names) (sumL wide (c / 12) (srt names)) := by
    refine ⟨Good.sum nd hs, fun p hp => ?_, Nat.le_trans (sumK_bd _ _) hM10⟩
    have := sumL_bd hw _ _ p hp
    (first | lia | omega)
  unfold endSt; split
  · exact g
  · split
    · refine ⟨?_, g⟩
      have h1 := Int.emod_nonneg (c / 4) (show most ≠ 0 by (first | lia | omega))
      have h2 := Int.emod_lt_of_pos (c / 4) hm
      (first | lia | omega)
    · exact g
theorem plain_gd {ss names : List Str} {is : List Int} {first count wide most : Int} {M : Nat} (nd : names.Nodup) (hs : ∀ x ∈ names, x ∈ ss) (hw : 0 ≤ wide) (hwM : wide.natAbs ≤ M) (hm : 0 < most) (hM : most.natAbs ≤ M) (hM10 : 10 ≤ M) :
    (plainSt is first count names wide most).Gd ss M := (Kept.gd ss M).plain (fun _ => end_gd nd hs hw hwM hm hM hM10) (fun _ => end_gd .nil (fun x hx => by cases hx) hw hwM hm hM hM10)
theorem end_dp (c : Int) (names : List Str) (wide most : Int) : (endSt c names wide most).dp = 0 := by
  unfold endSt; split
  · rfl
  · split <;> rfl
theorem rep_dp {e : St} (he : e.dp = 0) : ∀ n, (rep e n).dp = 0
  | 0 => rfl
  | n + 1 => by rw [rep, Sts.dp, he, rep_dp he n]; rfl
theorem step_dp {c : Int} {e m : St} (he : e.dp = 0) : (stepSt c e m).dp ≤ m.dp + 24 := by
  have h1 : ∀ m, (w01 c e m).dp ≤ m.dp + 3 := fun m => by unfold w01; split <;> simp [St.dp, Sts.dp, l2, he] <;> (first | lia | omega)
  have h2 : ∀ m, (w2 c e m).dp ≤ m.dp + 3 := fun m => by unfold w2; split <;> simp [St.dp, Sts.dp, l2, he] <;> (first | lia | omega)
  have h3 : ∀ m, (w3 c e m).dp ≤ m.dp + 3 := fun m => by unfold w3; split <;> simp [St.dp, Sts.dp, l3, yes, he] <;> (first | lia | omega)
  have h4 : ∀ m, (w4 c e m).dp ≤ m.dp + 3 := fun m => by unfold w4; split <;> simp [St.dp, Sts.dp, l2, he] <;> (first | lia | omega)
  have h5 : ∀ m, (w5 c e m).dp ≤ m.dp + 3 := fun m => by unfold w5; split <;> simp [St.dp, Sts.dp, l3, no, he] <;> (first | lia | omega)
  have h6 : ∀ m, (w6 c e m).dp ≤ m.dp + 3 := fun m => by unfold w6; split <;> simp [St.dp, Sts.dp, l2, he] <;> (first | lia | omega)
  have h7 : ∀ m, (w7 c e m).dp ≤ m.dp + 3 := fun m => by unfold w7; split <;> simp [St.dp, Sts.dp, l1, l2, he] <;> (first | lia | omega)
  have h8 : ∀ m, (w8 c e m).dp ≤ m.dp + 3 := fun m => by unfold w8; split <;> simp [St.dp, Sts.dp, rep_dp he, he]
  unfold stepSt
  have a1 := h1 m
  have a2 := h2 (w01 c e m)
  have a3 := h3 (w2 c e (w01 c e m))
  have a4 := h4 (w3 c e (w2 c e (w01 c e m)))
  have a5 := h5 (w4 c e (w3 c e (w2 c e (w01 c e m))))
  have a6 := h6 (w5 c e (w4 c e (w3 c e (w2 c e (w01 c e m)))))
  have a7 := h7 (w6 c e (w5 c e (w4 c e (w3 c e (w2 c e (w01 c e m))))))
  have a8 := h8 (w7 c e (w6 c e (w5 c e (w4 c e (w3 c e (w2 c e (w01 c e m)))))))
  (first | lia | omega)
theorem go_dp {is : List Int} {first wide most : Int} {names : List Str} : ∀ (j : Nat) (i : Int) (m : St), (plainGo is first names wide most i j m).dp ≤ m.dp + 24 * j
  | 0, i, m => by simp [plainGo]
  | j + 1, i, m => by
    have h1 := go_dp (is := is) (first := first) (wide := wide) (most := most) (names := names) j (i + 1) (stepSt (plainC is first i) (endSt (plainC is first i / 9) names wide most) m)
    have h2 := step_dp (c := plainC is first i) (e := endSt (plainC is first i / 9) names wide most) (m := m) (end_dp ..)
    rw [plainGo]; (first | lia | omega)
theorem plain_dp {is : List Int} {first count wide most : Int} {names : List Str} (h : count ≤ 6) : (plainSt is first count names wide most).dp ≤ 120 := by
  unfold plainSt
  split
  · exact (by decide : 1 ≤ 120)
  · have := go_dp (is := is) (first := first) (wide := wide) (most := most) (names := plainN is first names) (count - 1).toNat 1 (endSt (cellAt is first) (plainN is first names) wide most)
    rw [end_dp] at this; (first | lia | omega)
noncomputable def boundSt (c : Int) (s : St) (names : List Str) : St :=
  let i : St := .bind (decide (c % 2 = 0)) (names.getD (c / 2 % 4).toNat default) s
  if c / 8 % 4 = 0 then i else if c / 8 % 4 = 1 then .neg i else if c / 8 % 4 = 2 then .conn true (l2 s i) else .conn false (l2 yes (.neg (.conn false (l2 i s))))
theorem bound_gd {ss names : List Str} {M : Nat} {c : Int} {s : St} (g : s.Gd ss M) (h4 : names.length = 4) (hs : ∀ x ∈ names, x ∈ ss) : (boundSt c s names).Gd ss M := by
  have hj : (c / 2 % 4).toNat < names.length := by rw [h4]; (first | lia | omega)
  have hn : names.getD (c / 2 % 4).toNat default ∈ ss := by
    rw [List.getD_eq_getElem?_getD, List.getElem?_eq_getElem hj]; exact hs _ (List.getElem_mem hj)
  have gi : St.Gd ss M (.bind (decide (c % 2 = 0)) (names.getD (c / 2 % 4).toNat default) s) := ⟨hn, g⟩
  unfold boundSt
  dsimp only
  split
  · exact gi
  · split
    · exact gi
    · split
      · exact ⟨(show 2 ≤ 30 by decide), g, gi, trivial⟩
      · exact ⟨(show 2 ≤ 30 by decide), ⟨(show 0 ≤ 30 by decide), trivial⟩, ⟨(show 2 ≤ 30 by decide), gi, g, trivial⟩, trivial⟩
theorem bound_dp {names : List Str} {c : Int} {s : St} : (boundSt c s names).dp ≤ s.dp + 4 := by
  unfold boundSt
  dsimp only
  split
  · simp [St.dp]
  · split
    · simp [St.dp]
    · split <;> simp [St.dp, Sts.dp, l2, yes] <;> (first | lia | omega)
end Mine
end

section
open PySem PySem.W PyProof.Rows PyProof
set_option linter.unusedVariables false
namespace Mine
end Mine
end

section
open PySem PySem.W PyProof.Rows PySem.Calls PyProof
set_option Elab.async false
set_option maxRecDepth 100000
set_option linter.unusedVariables false
namespace Mine
noncomputable def signs (x : Str) : List Str := x.cps.toList.map fun c => ⟨#[c]⟩
noncomputable def figs (w : Str) : Str := if Txt.slice w none (some 1) == "-" then Txt.slice w (some 1) none else w
noncomputable def figuresL : Str := "0123456789"
noncomputable def lettersL : Str := "abcdefghijklmnopqrstuvwxyz"
noncomputable def okNum (w : Str) : Bool :=
  decide (1 ≤ (figs w).length) && decide ((figs w).length ≤ 60) && !(w == "-0") && !((figs w).cps[0]? == some 48 && decide (1 < (figs w).length)) && (signs (figs w)).all fun c => Txt.contains figuresL c
noncomputable def numW (w : Str) : Option Int := if okNum w then PySem.intText? w else none
noncomputable def nameW (w : Str) : Bool := decide (1 ≤ w.length) && decide (w.length ≤ 8) && (signs w).all fun c => Txt.contains lettersL c
noncomputable def lastLt (acc : List (Str × Int)) (nm : Str) : Bool := match acc.getLast? with
  | none => true
  | some p => !sle nm p.1
noncomputable def isEnd (w : Str) : Bool := w == ";"
inductive Kn where
  | above
  | nought
  | goes
  | no
  | conn (a : Bool)
  | bind (e : Bool)
  | other
  deriving DecidableEq
noncomputable def kn (w : Str) : Kn :=
  if w == "above" then .above else if w == "nought" then .nought else if w == "goes" then .goes else if w == "not" then .no
  else if w == "and" then .conn true else if w == "or" then .conn false else if w == "some" then .bind true else if w == "all" then .bind false else .other
structure Rd where
  num : Str → Option Int
  name : Str → Bool
  fin : Str → Bool
  kn : Str → Kn
noncomputable def pParts (R : Rd) : List (Str × Int) → List Str → Option (List (Str × Int) × List Str)
  | _, [] => none
  | acc, [w] => if R.fin w then some (acc, []) else none
  | acc, w :: nm :: r => if R.fin w then some (acc, nm :: r) else
    match R.num w with
    | none => none
    | some i => if i != 0 && R.name nm && lastLt acc nm then pParts R (acc ++ [(nm, i)]) r else none
noncomputable def pSum (R : Rd) : List Str → Option ((Int × List (Str × Int)) × List Str)
  | [] => none
  | w :: r => match R.num w with
    | none => none
    | some k => (pParts R [] r).map fun q => ((k, q.1), q.2)
noncomputable def pMany (p : List Str → Option (St × List Str)) : Nat → List Str → Option (Sts × List Str)
  | 0, r => some (.nil, r)
  | m + 1, r => match p r with
    | none => none
    | some (s, r') => (pMany p m r').map fun q => (.cons s q.1, q.2)
noncomputable def pBody (R : Rd) (p : List Str → Option (St × List Str)) (r : List Str) : Kn → Option (St × List Str)
  | .above => (pSum R r).map fun q => (.above q.1.1 q.1.2, q.2)
  | .nought => (pSum R r).map fun q => (.nought q.1.1 q.1.2, q.2)
  | .goes => match r with
    | [] => none
    | w :: r2 => match R.num w with
      | none => none
      | some m => if m < 1 then none else (pSum R r2).map fun q => (.goes m q.1.1 q.1.2, q.2)
  | .no => (p r).map fun q => (.neg q.1, q.2)
  | .conn a => match r with
    | [] => none
    | w :: r2 => match R.num w with
      | none => none
      | some m => if m < 0 then none else (pMany p m.toNat r2).map fun q => (.conn a q.1, q.2)
  | .bind e => match r with
    | [] => none
    | nm :: r2 => if R.name nm then (p r2).map fun q => (.bind e nm q.1, q.2) else none
  | .other => none
noncomputable def parse (R : Rd) : Nat → List Str → Option (St × List Str)
  | 0, _ => none
  | f + 1, [] => none
  | f + 1, kind :: r => pBody R (parse R f) r (R.kn kind)
theorem parse_k (R : Rd) (f : Nat) (kind : Str) (r : List Str) {k : Kn} (h : R.kn kind = k) : parse R (f + 1) (kind :: r) = pBody R (parse R f) r k := by rw [parse, h]
theorem pParts_end (R : Rd) (acc : List (Str × Int)) (w : Str) (r : List Str) (h : R.fin w = true) : pParts R acc (w :: r) = some (acc, r) := by
  cases r with
  | nil => rw [pParts, if_pos h]
  | cons x r => rw [pParts, if_pos h]
theorem pParts_next (R : Rd) (acc : List (Str × Int)) (w nm : Str) (r : List Str) {i : Int} (h : R.fin w = false) (hi : R.num w = some i) (h2 : (i != 0 && R.name nm && lastLt acc nm) = true) : pParts R acc (w :: nm :: r) = pParts R (acc ++ [(nm, i)]) r := by
  rw [pParts, if_neg (by rw [h]; decide), hi]
  dsimp only
  rw [if_pos h2]
theorem pSum_k (R : Rd) (w : Str) (r : List Str) {k : Int} (h : R.num w = some k) : pSum R (w :: r) = (pParts R [] r).map fun q => ((k, q.1), q.2) := by rw [pSum, h]
theorem kn_above : kn "above" = .above := by decide +kernel
theorem kn_nought : kn "nought" = .nought := by decide +kernel
theorem kn_goes : kn "goes" = .goes := by decide +kernel
theorem kn_not : kn "not" = .no := by decide +kernel
theorem kn_cw (a : Bool) : kn (cw a) = .conn a := by cases a <;> decide +kernel
theorem kn_bw (e : Bool) : kn (bw e) = .bind e := by cases e <;> decide +kernel
theorem isEnd_semi : isEnd ";" = true := by decide +kernel
noncomputable def rd : Rd := ⟨numW, nameW, isEnd, kn⟩
end Mine
end

section
open PySem PySem.W PyProof.Rows PySem.Calls PyProof
set_option Elab.async false
set_option maxRecDepth 100000
set_option linter.unusedVariables false
namespace Mine
noncomputable def numS (i : Int) : Str := (toString i : String)
noncomputable def pairsWs : List (Str × Int) → List Str
  | [] => []
  | p :: ps => numS p.2 :: p.1 :: pairsWs ps
noncomputable def sumWs (k : Int) (ps : List (Str × Int)) : List Str := numS k :: (pairsWs ps ++ [(";" : Str)])
mutual
noncomputable def St.ws : St → List Str
  | .above k ps => "above" :: sumWs k ps
  | .nought k ps => "nought" :: sumWs k ps
  | .goes m k ps => "goes" :: numS m :: sumWs k ps
  | .neg s => "not" :: s.ws
  | .conn a l => cw a :: numS l.len :: l.ws
  | .bind e nm s => bw e :: nm :: s.ws
noncomputable def Sts.ws : Sts → List Str
  | .nil => []
  | .cons s l => s.ws ++ l.ws
end
mutual
noncomputable def St.wi : St → Nat
  | .neg s => s.wi + 1
  | .conn _ l => l.wi + 1
  | .bind _ _ s => s.wi + 1
  | _ => 1
noncomputable def Sts.wi : Sts → Nat
  | .nil => 0
  | .cons s l => max s.wi l.wi
end
noncomputable def NumOk (R : Rd) (i : Int) : Prop := R.num (numS i) = some i ∧ R.fin (numS i) = false
structure SumOk (R : Rd) (k : Int) (ps : List (Str × Int)) : Prop where
  num : NumOk R k
  parts : ∀ p ∈ ps, NumOk R p.2 ∧ p.2 ≠ 0 ∧ R.name p.1 = true
  inc : (ps.map (·.1)).Pairwise fun a b => sle b a = false
mutual
noncomputable def St.Ok (R : Rd) : St → Prop
  | .above k ps => SumOk R k ps
  | .nought k ps => SumOk R k ps
  | .goes m k ps => NumOk R m ∧ 1 ≤ m ∧ SumOk R k ps
  | .neg s => s.Ok R
  | .conn _ l => NumOk R l.len ∧ l.Ok R
  | .bind _ nm s => R.name nm = true ∧ s.Ok R
noncomputable def Sts.Ok (R : Rd) : Sts → Prop
  | .nil => True
  | .cons s l => s.Ok R ∧ l.Ok R
end
structure RdOk (R : Rd) : Prop where
  semi : R.fin ";" = true
  above : R.kn "above" = .above
  nought : R.kn "nought" = .nought
  goes : R.kn "goes" = .goes
  no : R.kn "not" = .no
  conn : ∀ a, R.kn (cw a) = .conn a
  bind : ∀ e, R.kn (bw e) = .bind e
theorem pParts_back {R : Rd} (ro : RdOk R) (r : List Str) : ∀ (ps acc : List (Str × Int)), (∀ p ∈ ps, NumOk R p.2 ∧ p.2 ≠ 0 ∧ R.name p.1 = true) → ((acc ++ ps).map (·.1)).Pairwise (fun a b => sle b a = false) →
    pParts R acc (pairsWs ps ++ [(";" : Str)] ++ r) = some (acc ++ ps, r)
  | [], acc, _, _ => by
    show pParts R acc ((";" : Str) :: r) = _
    rw [pParts_end R _ _ _ ro.semi, List.append_nil]
  | p :: ps, acc, h, hi => by
    obtain ⟨⟨h1, h2⟩, h3, h4⟩ := h p (.head _)
    have hl : lastLt acc p.1 = true := by
      unfold lastLt
      cases hg : acc.getLast? with
      | none => rfl
      | some q =>
        have hq : q ∈ acc := List.mem_of_getLast? hg
        have := List.pairwise_append.mp (by simpa using hi : (acc.map (·.1) ++ (p :: ps).map (·.1)).Pairwise fun a b => sle b a = false)
        have := this.2.2 q.1 (List.mem_map_of_mem hq) p.1 (by simp)
        simp [this]
    have := pParts_back ro r ps (acc ++ [p]) (fun q hq => h q (.tail _ hq)) (by simpa using hi)
    show pParts R acc (numS p.2 :: p.1 :: (pairsWs ps ++ [(";" : Str)] ++ r)) = _
    rw [pParts_next R acc _ _ _ h2 h1 (by simp [h3, h4, hl])]
    simpa using this
theorem pSum_back {R : Rd} (ro : RdOk R) {k : Int} {ps : List (Str × Int)} (h : SumOk R k ps) (r : List Str) : pSum R (sumWs k ps ++ r) = some ((k, ps), r) := by
  show pSum R (numS k :: (pairsWs ps ++ [(";" : Str)] ++ r)) = _
  rw [pSum_k R _ _ h.num.1]
  have := pParts_back ro r ps [] h.parts (by simpa using h.inc)
  rw [this]; rfl
theorem parse_above {R : Rd} (ro : RdOk R) (f : Nat) (r : List Str) : parse R (f + 1) ("above" :: r) = (pSum R r).map fun q => (St.above q.1.1 q.1.2, q.2) := by
  rw [parse_k R f _ _ ro.above]; rfl
theorem parse_nought {R : Rd} (ro : RdOk R) (f : Nat) (r : List Str) : parse R (f + 1) ("nought" :: r) = (pSum R r).map fun q => (St.nought q.1.1 q.1.2, q.2) := by
  rw [parse_k R f _ _ ro.nought]; rfl
theorem parse_goes {R : Rd} (ro : RdOk R) (f : Nat) (w : Str) (r : List Str) : parse R (f + 1) ("goes" :: w :: r) = match R.num w with | none => none | some m => if m < 1 then none else (pSum R r).map fun q => (St.goes m q.1.1 q.1.2, q.2) := by
  rw [parse_k R f _ _ ro.goes]; rfl
theorem parse_not {R : Rd} (ro : RdOk R) (f : Nat) (r : List Str) : parse R (f + 1) ("not" :: r) = (parse R f r).map fun q => (St.neg q.1, q.2) := by
  rw [parse_k R f _ _ ro.no]; rfl
theorem parse_conn {R : Rd} (ro : RdOk R) (f : Nat) (a : Bool) (w : Str) (r : List Str) : parse R (f + 1) (cw a :: w :: r) = match R.num w with | none => none | some m => if m < 0 then none else (pMany (parse R f) m.toNat r).map fun q => (St.conn a q.1, q.2) := by
  rw [parse_k R f _ _ (ro.conn a)]; rfl
theorem parse_bind {R : Rd} (ro : RdOk R) (f : Nat) (e : Bool) (nm : Str) (r : List Str) : parse R (f + 1) (bw e :: nm :: r) = if R.name nm then (parse R f r).map fun q => (St.bind e nm q.1, q.2) else none := by
  rw [parse_k R f _ _ (ro.bind e)]; rfl
mutual
theorem St.back {R : Rd} (ro : RdOk R) : ∀ (s : St) (f : Nat) (r : List Str), s.wi ≤ f → s.Ok R → parse R f (s.ws ++ r) = some (s, r)
  | .above k ps, 0, r, h, _ => by cases h
  | .above k ps, f + 1, r, _, ok => by
    show parse R (f + 1) ("above" :: (sumWs k ps ++ r)) = _
    rw [parse_above ro, pSum_back ro ok r]; rfl
  | .nought k ps, 0, r, h, _ => by cases h
  | .nought k ps, f + 1, r, _, ok => by
    show parse R (f + 1) ("nought" :: (sumWs k ps ++ r)) = _
    rw [parse_nought ro, pSum_back ro ok r]; rfl
  | .goes m k ps, 0, r, h, _ => by cases h
  | .goes m k ps, f + 1, r, _, ok => by
    show parse R (f + 1) ("goes" :: numS m :: (sumWs k ps ++ r)) = _
    rw [parse_goes ro]
    rw [ok.1.1]
    dsimp only
    rw [if_neg (by have := ok.2.1; (first | lia | omega)), pSum_back ro ok.2.2 r]; rfl
  | .neg s, 0, r, h, _ => by cases h
  | .neg s, f + 1, r, h, ok => by
    show parse R (f + 1) ("not" :: (s.ws ++ r)) = _
    rw [parse_not ro, s.back ro f r (Nat.le_of_succ_le_succ h) ok]; rfl
  | .conn a l, 0, r, h, _ => by cases h
  | .conn a l, f + 1, r, h, ok => by
    show parse R (f + 1) (cw a :: numS l.len :: (l.ws ++ r)) = _
    rw [parse_conn ro, ok.1.1]
    dsimp only
    rw [if_neg (by (first | lia | omega)), Int.toNat_natCast, l.back ro f r (Nat.le_of_succ_le_succ h) ok.2]; rfl
  | .bind e nm s, 0, r, h, _ => by cases h
  | .bind e nm s, f + 1, r, h, ok => by
    show parse R (f + 1) (bw e :: nm :: (s.ws ++ r)) = _
    rw [parse_bind ro, if_pos ok.1, s.back ro f r (Nat.le_of_succ_le_succ h) ok.2]; rfl
theorem Sts.back {R : Rd} (ro : RdOk R) : ∀ (l : Sts) (f : Nat) (r : List Str), l.wi ≤ f → l.Ok R → pMany (parse R f) l.len (l.ws ++ r) = some (l, r)
  | .nil, f, r, _, _ => rfl
  | .cons s l, f, r, h, ok => by
    have h' : max s.wi l.wi ≤ f := h
    show pMany (parse R f) (l.len + 1) ((s.ws ++ l.ws) ++ r) = _
    rw [List.append_assoc]
    unfold pMany
    rw [s.back ro f (l.ws ++ r) (by (first | lia | omega)) ok.1]
    dsimp only
    rw [l.back ro f r (by (first | lia | omega)) ok.2]; rfl
end
theorem rd_ok : RdOk rd := ⟨isEnd_semi, kn_above, kn_nought, kn_goes, kn_not, kn_cw, kn_bw⟩
end Mine
end

section
open PySem PySem.W PyProof.Rows PySem.Calls PyProof PySem.NumText
set_option Elab.async false
set_option maxRecDepth 100000
set_option linter.unusedVariables false
namespace Mine
theorem has1 (x : Str) (c : Nat) : Txt.contains x ⟨#[c]⟩ = decide (c ∈ x.cps.toList) := StrLaws.found_one x c
theorem figuresL_cps : figuresL.cps.toList = (List.range 10).map (· + 48) := by decide +kernel
theorem lettersL_cps : lettersL.cps.toList = (List.range 26).map (· + 97) := by decide +kernel
theorem fig1 (c : Nat) : Txt.contains figuresL ⟨#[c]⟩ = decide (48 ≤ c ∧ c ≤ 57) := by
  rw [has1, figuresL_cps]; apply decide_eq_decide.mpr
  rw [List.mem_map]
  constructor
  · rintro ⟨a, h, rfl⟩
    exact ⟨Nat.le_add_left _ _, Nat.add_le_add_right (Nat.le_of_lt_succ (List.mem_range.mp h)) 48⟩
  · intro h; exact ⟨c - 48, List.mem_range.mpr (Nat.sub_lt_left_of_lt_add h.1 (Nat.lt_succ_of_le h.2)), Nat.sub_add_cancel h.1⟩
theorem let1 (c : Nat) : Txt.contains lettersL ⟨#[c]⟩ = decide (97 ≤ c ∧ c ≤ 122) := by
  rw [has1, lettersL_cps]; apply decide_eq_decide.mpr
  rw [List.mem_map]
  constructor
  · rintro ⟨a, h, rfl⟩
    have := List.mem_range.mp h; (first | lia | omega)
  · intro h; exact ⟨c - 97, List.mem_range.mpr (by (first | lia | omega)), by (first | lia | omega)⟩
theorem signs_all (x : Str) (p : Str → Bool) (q : Nat → Prop) [DecidablePred q] (h : ∀ c, p ⟨#[c]⟩ = decide (q c)) : (signs x).all p = true ↔ ∀ c ∈ x.cps.toList, q c := by
  unfold signs
  rw [List.all_eq_true]
  constructor
  · intro g c hc
    have := g ⟨#[c]⟩ (List.mem_map.mpr ⟨c, hc, rfl⟩)
    rw [h] at this; exact of_decide_eq_true this
  · intro g y hy
    obtain ⟨c, hc, rfl⟩ := List.mem_map.mp hy
    rw [h]; exact decide_eq_true (g c hc)
theorem str_eta {w : Str} {l : List Nat} (h : w.cps.toList = l) : w = ⟨l.toArray⟩ := by
  subst h; cases w; simp
theorem str_len (w : Str) : w.cps.toList.length = w.length := Array.length_toList
theorem sl_to {w : Str} {k : Nat} (h : k ≤ w.length) : Txt.slice w none (some (k : Int)) = ⟨(w.cps.toList.take k).toArray⟩ := by
  have := eq_of_beq (slice_closes_toL (x := w) (j := k) (by (first | lia | omega)) (by (first | lia | omega)))
  rw [this]; congr 2
theorem sl_from {w : Str} {k : Nat} (h : k ≤ w.length) : Txt.slice w (some (k : Int)) none = ⟨(w.cps.toList.drop k).toArray⟩ := by
  have := eq_of_beq (slice_closes_fromL (x := w) (i := k) (b := w.length) (by (first | lia | omega)) (by (first | lia | omega)) rfl)
  rw [this]; congr 2
  rw [Int.toNat_natCast]
  refine List.take_of_length_le ?_
  rw [List.length_drop, str_len]; (first | lia | omega)
theorem sl_head {w : Str} {c : Nat} {cs : List Nat} (h : w.cps.toList = c :: cs) : Txt.slice w none (some 1) = ⟨#[c]⟩ := by
  have hl := str_len w
  rw [h, List.length_cons] at hl
  have := sl_to (w := w) (k := 1) (by (first | lia | omega))
  rw [h] at this; exact this
theorem sl_tail {w : Str} {c : Nat} {cs : List Nat} (h : w.cps.toList = c :: cs) : Txt.slice w (some 1) none = ⟨cs.toArray⟩ := by
  have hl := str_len w
  rw [h, List.length_cons] at hl
  have := sl_from (w := w) (k := 1) (by (first | lia | omega))
  rw [h] at this; exact this
theorem dash : ("-" : Str) = ⟨#[45]⟩ := by decide +kernel
theorem figs_dash {w : Str} {cs : List Nat} (h : w.cps.toList = 45 :: cs) : figs w = ⟨cs.toArray⟩ := by
  unfold figs; rw [sl_head h, sl_tail h, dash, if_pos (by simp)]
theorem one_ne {a b : Nat} (h : a ≠ b) : ((⟨#[a]⟩ : Str) == ⟨#[b]⟩) = false := beq_eq_false_iff_ne.mpr fun e => by cases e; exact h rfl
theorem figs_other {w : Str} (h : ∀ cs, w.cps.toList ≠ 45 :: cs) : figs w = w := by
  cases e : w.cps.toList with
  | nil =>
    have : w = ⟨#[]⟩ := str_eta e
    subst this; decide +kernel
  | cons c cs =>
    have hc : c ≠ 45 := fun q => h cs (by rw [e, q])
    unfold figs
    rw [sl_head e, dash, if_neg (by rw [one_ne hc]; decide)]
theorem okNum_split {w : Str} (h : okNum w = true) : 1 ≤ (figs w).length ∧ (figs w).length ≤ 60 ∧ AllDigits (figs w).cps.toList := by
  unfold okNum at h
  simp only [Bool.and_eq_true, decide_eq_true_eq] at h
  exact ⟨h.1.1.1.1, h.1.1.1.2, (signs_all _ _ (fun c => 48 ≤ c ∧ c ≤ 57) fig1).mp h.2⟩
theorem figs_cases (w : Str) : (∃ cs, w.cps.toList = 45 :: cs ∧ figs w = ⟨cs.toArray⟩) ∨ figs w = w := by
  by_cases h : ∃ cs, w.cps.toList = 45 :: cs
  · obtain ⟨cs, h⟩ := h; exact .inl ⟨cs, h, figs_dash h⟩
  · exact .inr (figs_other fun cs e => h ⟨cs, e⟩)
theorem num_len {w : Str} (h : okNum w = true) : w.length ≤ 61 := by
  obtain ⟨h1, h2, h3⟩ := okNum_split h
  rcases figs_cases w with ⟨cs, e, f⟩ | f
  · have hl := str_len w
    rw [f] at h2
    have : (⟨cs.toArray⟩ : Str).length = cs.length := by simp [Str.length]
    rw [e, List.length_cons] at hl; (first | lia | omega)
  · rw [f] at h2; (first | lia | omega)
theorem num_text {w : Str} (h : okNum w = true) : ∃ i, PySem.intText? w = some i := by
  obtain ⟨h1, h2, h3⟩ := okNum_split h
  have hl := num_len h
  rcases figs_cases w with ⟨cs, e, f⟩ | f
  · rw [f] at h1 h3
    have e1 : (⟨cs.toArray⟩ : Str).cps.toList = cs := by simp
    rw [e1] at h3
    refine ⟨_, intText_neg e h3 (fun q => ?_) (by (first | lia | omega))⟩
    subst q; simp [Str.length] at h1
  · rw [f] at h1 h3
    refine ⟨_, intText_digits h3 (fun q => ?_) (by (first | lia | omega))⟩
    have := str_len w
    rw [q] at this; simp at this; (first | lia | omega)
theorem num_nodash {w : Str} (h : okNum w = true) : 32 ∉ w.cps.toList := by
  obtain ⟨h1, h2, h3⟩ := okNum_split h
  rcases figs_cases w with ⟨cs, e, f⟩ | f
  · rw [f] at h3
    intro q
    rw [e] at q
    rcases List.mem_cons.mp q with q | q
    · (first | lia | omega)
    · have := h3 32 (by simpa using q); (first | lia | omega)
  · rw [f] at h3
    intro q; have := h3 32 q; (first | lia | omega)
theorem numW_ok {w : Str} {i : Int} (h : numW w = some i) : okNum w = true := by
  unfold numW at h
  split at h
  · assumption
  · cases h
theorem dig_top (m : Nat) (h : 1 ≤ m) : ∃ c cs, (Nat.toDigits 10 m).map Char.toNat = c :: cs ∧ 49 ≤ c ∧ c ≤ 57 := by
  induction m using Nat.strongRecOn with
  | _ m ih =>
    by_cases hm : m < 10
    · rw [Nat.toDigits_of_lt_base hm]
      have : ∀ d : Nat, d < 10 → 1 ≤ d → 49 ≤ (Nat.digitChar d).toNat ∧ (Nat.digitChar d).toNat ≤ 57 := by decide
      exact ⟨_, [], rfl, (this m hm h).1, (this m hm h).2⟩
    · have hm1 : m % 10 < 10 := Nat.mod_lt m (by decide)
      have t : Nat.toDigits 10 (m / 10) ++ Nat.toDigits 10 (m % 10) = Nat.toDigits 10 (10 * (m / 10) + m % 10) := Nat.toDigits_append_toDigits (by decide) (by (first | lia | omega)) hm1
      rw [Nat.div_add_mod] at t
      obtain ⟨c, cs, e, h1, h2⟩ := ih (m / 10) (by (first | lia | omega)) (by (first | lia | omega))
      refine ⟨c, cs ++ (Nat.toDigits 10 (m % 10)).map Char.toNat, ?_, h1, h2⟩
      rw [← t, List.map_append, e]; rfl
theorem dig_len : ∀ (k m : Nat), m < 10 ^ (k + 1) → (Nat.toDigits 10 m).length ≤ k + 1
  | 0, m, h => by rw [Nat.toDigits_of_lt_base (by simpa using h)]; exact Nat.le_refl _
  | k + 1, m, h => by
    by_cases hm : m < 10
    · rw [Nat.toDigits_of_lt_base hm]; simp
    · have hm1 : m % 10 < 10 := Nat.mod_lt m (by decide)
      have t : Nat.toDigits 10 (m / 10) ++ Nat.toDigits 10 (m % 10) = Nat.toDigits 10 (10 * (m / 10) + m % 10) := Nat.toDigits_append_toDigits (by decide) (by (first | lia | omega)) hm1
      rw [Nat.div_add_mod] at t
      have := dig_len k (m / 10) (by rw [Nat.pow_succ] at h; (first | lia | omega))
      rw [← t, List.length_append, Nat.toDigits_of_lt_base hm1]
      simp only [List.length_cons, List.length_nil]; (first | lia | omega)
theorem dig_all (m : Nat) : AllDigits ((Nat.toDigits 10 m).map Char.toNat) := by
  intro c hc
  obtain ⟨ch, hch, e⟩ := List.mem_map.mp hc
  have r := digit_range (Nat.isDigit_of_mem_toDigits (by decide) (by decide) hch)
  rw [← e]; exact r
theorem dig_ne (m : Nat) : (Nat.toDigits 10 m).map Char.toNat ≠ [] := by
  by_cases h : m = 0
  · subst h; decide
  · obtain ⟨c, cs, e, _⟩ := dig_top m (by (first | lia | omega))
    rw [e]; exact fun q => by cases q
theorem numS_nat (m : Nat) : (numS (m : Int)).cps.toList = (Nat.toDigits 10 m).map Char.toNat := KIN.signs_num m
theorem numS_neg (m : Nat) : (numS (Int.negSucc m)).cps.toList = 45 :: (Nat.toDigits 10 (m + 1)).map Char.toNat := by
  unfold numS
  rw [signs_ofString]
  show ("-" ++ Nat.repr (m + 1)).toList.map Char.toNat = _
  rw [String.toList_append, List.map_append, Nat.toList_repr]
  rfl
theorem semi : (";" : Str) = ⟨#[59]⟩ := by decide +kernel
theorem dash0 : ("-0" : Str) = ⟨#[45, 48]⟩ := by decide +kernel
theorem str_ne {w v : Str} {l l' : List Nat} (h : w.cps.toList = l) (h' : v.cps.toList = l') (hne : l ≠ l') : (w == v) = false :=
  beq_eq_false_iff_ne.mpr fun e => hne (by rw [← h, ← h', e])
theorem NumOk.of {i : Int} (h : i.natAbs < 10 ^ 60) : NumOk rd i := by
  have key : okNum (numS i) = true ∧ PySem.intText? (numS i) = some i ∧ isEnd (numS i) = false := by
    cases i with
    | ofNat m =>
      have hm : m < 10 ^ 60 := h
      have e := numS_nat m
      have hl : (Nat.toDigits 10 m).length ≤ 60 := dig_len 59 m hm
      have hd := dig_all m
      have hne := dig_ne m
      show okNum (numS (m : Int)) = true ∧ PySem.intText? (numS (m : Int)) = some (m : Int) ∧ isEnd (numS (m : Int)) = false
      generalize hw : numS (m : Int) = w at *
      have hlen : w.length = (Nat.toDigits 10 m).length := by rw [← str_len, e, List.length_map]
      have hf : figs w = w := figs_other fun cs q => by
        have : 45 ∈ w.cps.toList := by rw [q]; exact .head _
        rw [e] at this
        have := hd 45 this; (first | lia | omega)
      have hpos : 1 ≤ w.length := by
        rw [hlen]; cases hx : Nat.toDigits 10 m with
        | nil => rw [hx] at hne; exact absurd rfl hne
        | cons c cs => simp
      refine ⟨?_, ?_, ?_⟩
      · unfold okNum
        rw [hf]
        have h1 : (w == "-0") = false := str_ne e (by rw [dash0]) fun q => by
          have : 45 ∈ (Nat.toDigits 10 m).map Char.toNat := by rw [q]; exact .head _
          have := hd 45 this; (first | lia | omega)
        have h2 : (w.cps[0]? == some 48 && decide (1 < w.length)) = false := by
          by_cases h0 : m = 0
          · subst h0
            have : w.length = 1 := by rw [hlen]; decide
            rw [this]; simp
          · obtain ⟨c, cs, e', hc, _⟩ := dig_top m (by (first | lia | omega))
            have : w.cps[0]? = some c := by rw [← Array.getElem?_toList, e, e']; rfl
            rw [this]
            have : (some c == some 48) = false := by simp; (first | lia | omega)
            rw [this]; rfl
        have h3 : ((signs w).all fun c => Txt.contains figuresL c) = true := (signs_all _ _ (fun c => 48 ≤ c ∧ c ≤ 57) fig1).mpr (by rw [e]; exact hd)
        rw [h1, h2, h3, decide_eq_true hpos, decide_eq_true (by (first | lia | omega) : w.length ≤ 60)]; rfl
      · have := intText_digits (x := w) (by rw [e]; exact hd) (by rw [e]; exact hne) (by (first | lia | omega))
        rw [this, e, KIN.val_back]
      · unfold isEnd
        refine str_ne e (by rw [semi]) fun q => ?_
        have : 59 ∈ (Nat.toDigits 10 m).map Char.toNat := by rw [q]; exact .head _
        have := hd 59 this; (first | lia | omega)
    | negSucc m =>
      have hm : m + 1 < 10 ^ 60 := h
      have e := numS_neg m
      have hl : (Nat.toDigits 10 (m + 1)).length ≤ 60 := dig_len 59 (m + 1) hm
      have hd := dig_all (m + 1)
      have hne := dig_ne (m + 1)
      obtain ⟨c, cs, e', hc, hc'⟩ := dig_top (m + 1) (by (first | lia | omega))
      generalize hw : numS (Int.negSucc m) = w at *
      have hlen : w.length = (Nat.toDigits 10 (m + 1)).length + 1 := by rw [← str_len, e, List.length_cons, List.length_map]
      have hf : figs w = ⟨((Nat.toDigits 10 (m + 1)).map Char.toNat).toArray⟩ := figs_dash e
      have hfl : (figs w).cps.toList = (Nat.toDigits 10 (m + 1)).map Char.toNat := by rw [hf]
      have hflen : (figs w).length = (Nat.toDigits 10 (m + 1)).length := by rw [← str_len, hfl, List.length_map]
      have hpos : 1 ≤ (figs w).length := by
        rw [hflen]; cases hx : Nat.toDigits 10 (m + 1) with
        | nil => rw [hx] at hne; exact absurd rfl hne
        | cons c cs => simp
      refine ⟨?_, ?_, ?_⟩
      · unfold okNum
        have h1 : (w == "-0") = false := str_ne e (by rw [dash0]) fun q => by
          rw [e'] at q
          simp at q; (first | lia | omega)
        have h2 : ((figs w).cps[0]? == some 48 && decide (1 < (figs w).length)) = false := by
          have : (figs w).cps[0]? = some c := by rw [← Array.getElem?_toList, hfl, e']; rfl
          rw [this]
          have : (some c == some 48) = false := by simp; (first | lia | omega)
          rw [this]; rfl
        have h3 : ((signs (figs w)).all fun c => Txt.contains figuresL c) = true := (signs_all _ _ (fun c => 48 ≤ c ∧ c ≤ 57) fig1).mpr (by rw [hfl]; exact hd)
        rw [h1, h2, h3, decide_eq_true hpos, decide_eq_true (by (first | lia | omega) : (figs w).length ≤ 60)]; rfl
      · have := intText_neg (x := w) e hd hne (by (first | lia | omega))
        rw [this, KIN.val_back]; rfl
      · unfold isEnd
        refine str_ne e (by rw [semi]) fun q => ?_
        simp at q
  refine ⟨?_, key.2.2⟩
  show numW (numS i) = some i
  unfold numW
  rw [key.1]; exact key.2.1
theorem nameW_iff (w : Str) : nameW w = true ↔ 1 ≤ w.length ∧ w.length ≤ 8 ∧ ∀ c ∈ w.cps.toList, 97 ≤ c ∧ c ≤ 122 := by
  unfold nameW
  rw [Bool.and_eq_true, Bool.and_eq_true, decide_eq_true_eq, decide_eq_true_eq, signs_all _ _ (fun c => 97 ≤ c ∧ c ≤ 122) let1, and_assoc]
theorem join_two (sep x y : Str) (r : List Str) : (Str.join sep (x :: y :: r)).cps.toList = x.cps.toList ++ (sep.cps.toList ++ (Str.join sep (y :: r)).cps.toList) := by
  show ((x ++ sep) ++ Str.join sep (y :: r)).cps.toList = _
  show ((x.cps ++ sep.cps) ++ (Str.join sep (y :: r)).cps).toList = _
  simp
theorem free_cut {c : Nat} : ∀ {a a' t t' : List Nat}, c ∉ a → c ∉ a' → a ++ c :: t = a' ++ c :: t' → a = a' ∧ t = t'
  | [], [], t, t', _, _, h => ⟨rfl, by simpa using h⟩
  | [], x :: a', t, t', _, h', h => by
    simp at h; exact absurd (by rw [h.1]; exact .head _) h'
  | x :: a, [], t, t', h', _, h => by
    simp at h; exact absurd (by rw [h.1]; exact .head _) h'
  | x :: a, y :: a', t, t', h1, h2, h => by
    simp at h
    obtain ⟨e1, e2⟩ := free_cut (fun q => h1 (.tail _ q)) (fun q => h2 (.tail _ q)) h.2
    exact ⟨by rw [h.1, e1], e2⟩
theorem join_inj (c : Nat) : ∀ (ps ws : List Str), ps ≠ [] → ws ≠ [] → (∀ p ∈ ps, c ∉ p.cps.toList) → (∀ p ∈ ws, c ∉ p.cps.toList) → Str.join ⟨#[c]⟩ ps = Str.join ⟨#[c]⟩ ws → ps = ws
  | [], _, h, _, _, _, _ => absurd rfl h
  | _, [], _, h, _, _, _ => absurd rfl h
  | [x], [y], _, _, _, _, h => by rw [show x = y from h]
  | [x], y :: z :: r, _, _, h1, _, h => by
    have := congrArg (fun s : Str => s.cps.toList) (show x = Str.join ⟨#[c]⟩ (y :: z :: r) from h)
    simp only [join_two] at this
    exact absurd (by rw [this]; simp) (h1 x (.head _))
  | y :: z :: r, [x], _, _, _, h1, h => by
    have := congrArg (fun s : Str => s.cps.toList) (show Str.join ⟨#[c]⟩ (y :: z :: r) = x from h)
    simp only [join_two] at this
    exact absurd (by rw [← this]; simp) (h1 x (.head _))
  | x :: y :: r, x' :: y' :: r', _, _, h1, h2, h => by
    have e := congrArg (fun s : Str => s.cps.toList) h
    simp only [join_two] at e
    obtain ⟨e1, e2⟩ := free_cut (h1 x (.head _)) (h2 x' (.head _)) (show x.cps.toList ++ c :: (Str.join ⟨#[c]⟩ (y :: r)).cps.toList = x'.cps.toList ++ c :: (Str.join ⟨#[c]⟩ (y' :: r')).cps.toList by simpa using e)
    have e3 : x = x' := (str_eta e1).trans (str_eta (w := x') rfl).symm
    have e4 : Str.join ⟨#[c]⟩ (y :: r) = Str.join ⟨#[c]⟩ (y' :: r') := (str_eta e2).trans (str_eta (w := Str.join ⟨#[c]⟩ (y' :: r')) rfl).symm
    rw [e3, join_inj c (y :: r) (y' :: r') (fun q => by cases q) (fun q => by cases q) (fun p hp => h1 p (.tail _ hp)) (fun p hp => h2 p (.tail _ hp)) e4]
theorem blank : (" " : Str) = ⟨#[32]⟩ := by decide +kernel
theorem split_join {ws : List Str} (hne : ws ≠ []) (hb : ∀ w ∈ ws, 32 ∉ w.cps.toList) : Txt.split (Txt.join " " ws) " " = ws := by
  rw [blank]
  have e : Txt.join ⟨#[32]⟩ ws = Str.join ⟨#[32]⟩ ws := eq_of_beq (join_plain_closes _ _)
  have hs := split_pos (Txt.join ⟨#[32]⟩ ws) ⟨#[32]⟩
  refine join_inj 32 _ _ (fun q => ?_) hne (StrLaws.split_free _ 32) hb ?_
  · rw [q] at hs; simp at hs
  · rw [StrLaws.join_split, e]
theorem parts_fit {x : Str} (h : x.length < 2 ^ 20) : (Builtin.Str.partsBetween x (Builtin.Str.occurrences x (" " : Str) 0 x.length (x.length + 1)) (" " : Str).length).length ≤ sizeLine := by
  rw [len_partsBetween]
  have := StrLaws.occ_length_le x (" " : Str) 0 x.length (x.length + 1)
  have e : sizeLine = 16777216 := by decide
  (first | lia | omega)
theorem sum_len {ws : List Str} {k : Nat} (h : ∀ w ∈ ws, w.length ≤ k) : (ws.map (·.length)).sum ≤ ws.length * k := by
  induction ws with
  | nil => simp
  | cons w ws ih =>
    have h1 := h w (.head _)
    have h2 := ih fun w hw => h w (.tail _ hw)
    rw [List.map_cons, List.sum_cons, List.length_cons, Nat.succ_mul]; (first | lia | omega)
theorem join_fit {ws : List Str} (hn : ws.length ≤ 12000) (h : ∀ w ∈ ws, w.length ≤ 70) : JoinOk " " ws = true := by
  refine joinOk_of ?_
  have := sum_len h
  have e : (" " : Str).length = 1 := by decide +kernel
  rw [e]
  have : ws.length * 70 ≤ 12000 * 70 := Nat.mul_le_mul_right _ hn
  (first | lia | omega)
theorem join_len {ws : List Str} (hn : ws.length ≤ 12000) (h : ∀ w ∈ ws, w.length ≤ 70) : (Txt.join " " ws).length ≤ 852000 := by
  have e : Txt.join " " ws = Str.join " " ws := eq_of_beq (join_plain_closes _ _)
  rw [e]
  have h1 := StrLaws.join_length_le " " ws
  have := sum_len h
  have e : (" " : Str).length = 1 := by decide +kernel
  rw [e] at h1
  have : ws.length * 70 ≤ 12000 * 70 := Nat.mul_le_mul_right _ hn
  (first | lia | omega)
end Mine
end

section
open PySem PySem.W PyProof.Rows PySem.Calls PyProof PySem.NumText
set_option Elab.async false
set_option maxRecDepth 100000
set_option linter.unusedVariables false
namespace Mine
theorem SumOk.of {ss : List Str} {M : Nat} {k : Int} {ps : List (Str × Int)} (hn : ∀ x ∈ ss, nameW x = true) (hM : M < 10 ^ 60) (g : GS ss M k ps) : SumOk rd k ps :=
  ⟨NumOk.of (Nat.lt_of_le_of_lt g.kb hM), fun p hp => ⟨NumOk.of (Nat.lt_of_le_of_lt (g.bd p hp) hM), g.good.nz p hp, hn _ (g.good.mem p hp)⟩, g.good.inc⟩
mutual
theorem St.Ok.of {ss : List Str} {M : Nat} (hn : ∀ x ∈ ss, nameW x = true) (hM : M < 10 ^ 60) : ∀ {s : St}, s.Gd ss M → s.Ok rd
  | .above k ps, g => SumOk.of hn hM g
  | .nought k ps, g => SumOk.of hn hM g
  | .goes m k ps, g => ⟨NumOk.of (Nat.lt_of_le_of_lt g.1.2 hM), g.1.1, SumOk.of hn hM g.2⟩
  | .neg s, g => St.Ok.of hn hM (s := s) g
  | .conn a l, g => ⟨NumOk.of (by have := g.1; have e : (10 : Nat) ^ 60 = 1000000000000000000000000000000000000000000000000000000000000 := by decide
                                  (first | lia | omega)), Sts.Ok.of hn hM g.2⟩
  | .bind e nm s, g => ⟨hn _ g.1, St.Ok.of hn hM (s := s) g.2⟩
theorem Sts.Ok.of {ss : List Str} {M : Nat} (hn : ∀ x ∈ ss, nameW x = true) (hM : M < 10 ^ 60) : ∀ {l : Sts}, l.Gd ss M → l.Ok rd
  | .nil, _ => trivial
  | .cons s l, g => ⟨St.Ok.of hn hM g.1, Sts.Ok.of hn hM g.2⟩
end
structure WdOk (w : Str) : Prop where
  len : w.length ≤ 61
  free : 32 ∉ w.cps.toList
theorem NumOk.wd {i : Int} (h : NumOk rd i) : WdOk (numS i) :=
  have ok : okNum (numS i) = true := numW_ok (show numW (numS i) = some i from h.1)
  ⟨num_len ok, num_nodash ok⟩
theorem nameW.wd {w : Str} (h : nameW w = true) : WdOk w := by
  obtain ⟨h1, h2, h3⟩ := (nameW_iff w).mp h
  exact ⟨by (first | lia | omega), fun q => by have := h3 32 q; (first | lia | omega)⟩
theorem wd_lit (w : Str) (h : (decide (w.length ≤ 61) && !w.cps.toList.contains 32) = true) : WdOk w := by
  rw [Bool.and_eq_true, decide_eq_true_eq] at h
  exact ⟨h.1, by simpa using h.2⟩
theorem wd_semi : WdOk ";" := wd_lit _ (by decide +kernel)
theorem pairs_ok {R : List (Str × Int)} (h : ∀ p ∈ R, NumOk rd p.2 ∧ p.2 ≠ 0 ∧ rd.name p.1 = true) : ∀ w ∈ pairsWs R, WdOk w := by
  induction R with
  | nil => intro w hw; cases hw
  | cons p R ih =>
    intro w hw
    have hp := h p (.head _)
    rcases List.mem_cons.mp hw with rfl | hw
    · exact hp.1.wd
    · rcases List.mem_cons.mp hw with rfl | hw
      · exact nameW.wd hp.2.2
      · exact ih (fun q hq => h q (.tail _ hq)) w hw
theorem sum_ok {k : Int} {ps : List (Str × Int)} (h : SumOk rd k ps) : ∀ w ∈ sumWs k ps, WdOk w := by
  intro w hw
  rcases List.mem_cons.mp hw with rfl | hw
  · exact h.num.wd
  · rcases List.mem_append.mp hw with hw | hw
    · exact pairs_ok h.parts w hw
    · rw [List.mem_singleton.mp hw]; exact wd_semi
mutual
theorem St.ws_ok : ∀ {s : St}, s.Ok rd → ∀ w ∈ s.ws, WdOk w
  | .above k ps, h, w, hw => by
    rcases List.mem_cons.mp hw with rfl | hw
    · exact wd_lit _ (by decide +kernel)
    · exact sum_ok h w hw
  | .nought k ps, h, w, hw => by
    rcases List.mem_cons.mp hw with rfl | hw
    · exact wd_lit _ (by decide +kernel)
    · exact sum_ok h w hw
  | .goes m k ps, h, w, hw => by
    rcases List.mem_cons.mp hw with rfl | hw
    · exact wd_lit _ (by decide +kernel)
    · rcases List.mem_cons.mp hw with rfl | hw
      · exact h.1.wd
      · exact sum_ok h.2.2 w hw
  | .neg s, h, w, hw => by
    rcases List.mem_cons.mp hw with rfl | hw
    · exact wd_lit _ (by decide +kernel)
    · exact St.ws_ok (s := s) h w hw
  | .conn a l, h, w, hw => by
    rcases List.mem_cons.mp hw with rfl | hw
    · cases a <;> exact wd_lit _ (by decide +kernel)
    · rcases List.mem_cons.mp hw with rfl | hw
      · exact h.1.wd
      · exact Sts.ws_ok h.2 w hw
  | .bind e nm s, h, w, hw => by
    rcases List.mem_cons.mp hw with rfl | hw
    · cases e <;> exact wd_lit _ (by decide +kernel)
    · rcases List.mem_cons.mp hw with rfl | hw
      · exact nameW.wd h.1
      · exact St.ws_ok (s := s) h.2 w hw
theorem Sts.ws_ok : ∀ {l : Sts}, l.Ok rd → ∀ w ∈ l.ws, WdOk w
  | .nil, _, w, hw => by cases hw
  | .cons s l, h, w, hw => by
    rcases List.mem_append.mp hw with hw | hw
    · exact St.ws_ok h.1 w hw
    · exact Sts.ws_ok h.2 w hw
end
theorem St.ws_ne : ∀ s : St, s.ws ≠ []
  | .above .. => by rw [St.ws]; exact List.cons_ne_nil _ _
  | .nought .. => by rw [St.ws]; exact List.cons_ne_nil _ _
  | .goes .. => by rw [St.ws]; exact List.cons_ne_nil _ _
  | .neg .. => by rw [St.ws]; exact List.cons_ne_nil _ _
  | .conn .. => by rw [St.ws]; exact List.cons_ne_nil _ _
  | .bind .. => by rw [St.ws]; exact List.cons_ne_nil _ _
theorem pairs_len : ∀ ps : List (Str × Int), (pairsWs ps).length = 2 * ps.length
  | [] => rfl
  | p :: ps => by rw [pairsWs, List.length_cons, List.length_cons, pairs_len ps, List.length_cons]; (first | lia | omega)
theorem sumWs_len (k : Int) (ps : List (Str × Int)) : (sumWs k ps).length = 2 * ps.length + 2 := by
  rw [sumWs, List.length_cons, List.length_append, pairs_len]; simp
theorem end_ws {c wide most : Int} {names : List Str} (h : names.length ≤ 3) : (endSt c names wide most).ws.length ≤ 10 := by
  have hl : (sumL wide (c / 12) (srt names)).length ≤ 3 := by
    have := (sumL_sub wide (srt names) (c / 12)).length_le
    rw [List.length_map, (srt_perm names).length_eq] at this; (first | lia | omega)
  unfold endSt
  split
  · rw [St.ws, List.length_cons, sumWs_len]; (first | lia | omega)
  · split
    · rw [St.ws, List.length_cons, List.length_cons, sumWs_len]; (first | lia | omega)
    · rw [St.ws, List.length_cons, sumWs_len]; (first | lia | omega)
theorem rep_ws (e : St) : ∀ n, (rep e n).ws.length = n * e.ws.length
  | 0 => by simp [rep, Sts.ws]
  | n + 1 => by rw [rep, Sts.ws, List.length_append, rep_ws e n, Nat.succ_mul]; (first | lia | omega)
theorem step_ws {c : Int} {e m : St} (he : e.ws.length ≤ 10) : (stepSt c e m).ws.length ≤ m.ws.length + 314 := by
  have h1 : ∀ m, (w01 c e m).ws.length ≤ m.ws.length + 12 := fun m => by unfold w01; split <;> simp [St.ws, Sts.ws, l2] <;> (first | lia | omega)
  have h2 : ∀ m, (w2 c e m).ws.length ≤ m.ws.length + 13 := fun m => by unfold w2; split <;> simp [St.ws, Sts.ws, l2] <;> (first | lia | omega)
  have h3 : ∀ m, (w3 c e m).ws.length ≤ m.ws.length + 15 := fun m => by unfold w3; split <;> simp [St.ws, Sts.ws, l3, yes] <;> (first | lia | omega)
  have h4 : ∀ m, (w4 c e m).ws.length ≤ m.ws.length + 25 := fun m => by unfold w4; split <;> simp [St.ws, Sts.ws, l2] <;> (first | lia | omega)
  have h5 : ∀ m, (w5 c e m).ws.length ≤ m.ws.length + 14 := fun m => by unfold w5; split <;> simp [St.ws, Sts.ws, l3, no] <;> (first | lia | omega)
  have h6 : ∀ m, (w6 c e m).ws.length ≤ m.ws.length + 15 := fun m => by unfold w6; split <;> simp [St.ws, Sts.ws, l2] <;> (first | lia | omega)
  have h7 : ∀ m, (w7 c e m).ws.length ≤ m.ws.length + 18 := fun m => by unfold w7; split <;> simp [St.ws, Sts.ws, l1, l2] <;> (first | lia | omega)
  have h8 : ∀ m, (w8 c e m).ws.length ≤ m.ws.length + 202 := fun m => by
    unfold w8; split
    · have hr : (1 + c / 18 % 18).toNat * e.ws.length ≤ 18 * 10 := Nat.mul_le_mul (by (first | lia | omega)) he
      simp only [St.ws, Sts.ws, List.length_cons, List.length_append, rep_ws]; (first | lia | omega)
    · (first | lia | omega)
  unfold stepSt
  have a1 := h1 m
  have a2 := h2 (w01 c e m)
  have a3 := h3 (w2 c e (w01 c e m))
  have a4 := h4 (w3 c e (w2 c e (w01 c e m)))
  have a5 := h5 (w4 c e (w3 c e (w2 c e (w01 c e m))))
  have a6 := h6 (w5 c e (w4 c e (w3 c e (w2 c e (w01 c e m)))))
  have a7 := h7 (w6 c e (w5 c e (w4 c e (w3 c e (w2 c e (w01 c e m))))))
  have a8 := h8 (w7 c e (w6 c e (w5 c e (w4 c e (w3 c e (w2 c e (w01 c e m)))))))
  (first | lia | omega)
theorem go_ws {is : List Int} {first wide most : Int} {names : List Str} (hn : names.length ≤ 3) : ∀ (j : Nat) (i : Int) (m : St), (plainGo is first names wide most i j m).ws.length ≤ m.ws.length + 314 * j
  | 0, i, m => by simp [plainGo]
  | j + 1, i, m => by
    have h1 := go_ws (is := is) (first := first) (wide := wide) (most := most) hn j (i + 1) (stepSt (plainC is first i) (endSt (plainC is first i / 9) names wide most) m)
    have h2 := step_ws (c := plainC is first i) (e := endSt (plainC is first i / 9) names wide most) (m := m) (end_ws hn)
    rw [plainGo]; (first | lia | omega)
theorem plain_ws {is : List Int} {first count wide most : Int} {names : List Str} (hn : names.length ≤ 3) (h : count ≤ 5) : (plainSt is first count names wide most).ws.length ≤ 1300 := by
  have hn' : (plainN is first names).length ≤ 3 := by
    unfold plainN; split
    · simp
    · exact hn
  unfold plainSt
  split
  · exact (by decide : 2 ≤ 1300)
  · have := go_ws (is := is) (first := first) (wide := wide) (most := most) hn' (count - 1).toNat 1 (endSt (cellAt is first) (plainN is first names) wide most)
    have := end_ws (c := cellAt is first) (wide := wide) (most := most) hn'
    (first | lia | omega)
theorem bound_ws {names : List Str} {c : Int} {s : St} : (boundSt c s names).ws.length ≤ 2 * s.ws.length + 11 := by
  unfold boundSt
  dsimp only
  split
  · simp [St.ws]; (first | lia | omega)
  · split
    · simp [St.ws]; (first | lia | omega)
    · split <;> simp [St.ws, Sts.ws, l2, yes] <;> (first | lia | omega)
mutual
theorem St.wi_dp : ∀ s : St, s.wi ≤ s.dp + 1
  | .above .. => by simp [St.wi, St.dp]
  | .nought .. => by simp [St.wi, St.dp]
  | .goes .. => by simp [St.wi, St.dp]
  | .neg s => by have := s.wi_dp; simp only [St.wi, St.dp]; (first | lia | omega)
  | .conn a l => by have := l.wi_dp; simp only [St.wi, St.dp]; (first | lia | omega)
  | .bind e nm s => by have := s.wi_dp; simp only [St.wi, St.dp]; (first | lia | omega)
theorem Sts.wi_dp : ∀ l : Sts, l.wi ≤ l.dp + 1
  | .nil => by simp [Sts.wi]
  | .cons s l => by have := s.wi_dp; have := l.wi_dp; simp only [Sts.wi, Sts.dp]; (first | lia | omega)
end
mutual
noncomputable def St.Sm (N : Nat) : St → Prop
  | .above _ ps => ps.length ≤ N
  | .nought _ ps => ps.length ≤ N
  | .goes _ _ ps => ps.length ≤ N
  | .neg s => s.Sm N
  | .conn _ l => l.len ≤ N ∧ l.Sm N
  | .bind _ _ s => s.Sm N
noncomputable def Sts.Sm (N : Nat) : Sts → Prop
  | .nil => True
  | .cons s l => s.Sm N ∧ l.Sm N
end
theorem pParts_len (R : Rd) : ∀ (acc : List (Str × Int)) (ws : List Str) (q : List (Str × Int)) (r : List Str), pParts R acc ws = some (q, r) → r.length < ws.length ∧ q.length + r.length ≤ acc.length + ws.length ∧ r <:+ ws
  | acc, [], q, r, h => by rw [pParts] at h; cases h
  | acc, [w], q, r, h => by
    rw [pParts] at h
    split at h
    · cases h; exact ⟨by simp, by simp, List.nil_suffix⟩
    · cases h
  | acc, w :: nm :: ws, q, r, h => by
    rw [pParts] at h
    split at h
    · cases h; exact ⟨by simp, by simp, List.suffix_cons _ _⟩
    · split at h
      · cases h
      · split at h
        · obtain ⟨h1, h2, h3⟩ := pParts_len R _ ws q r h
          refine ⟨?_, ?_, (h3.trans (List.suffix_cons _ _)).trans (List.suffix_cons _ _)⟩ <;> simp only [List.length_append, List.length_cons, List.length_nil] at h2 ⊢ <;> (first | lia | omega)
        · cases h
theorem pSum_len {R : Rd} {ws : List Str} {k : Int} {ps : List (Str × Int)} {r : List Str} (h : pSum R ws = some ((k, ps), r)) : r.length < ws.length ∧ ps.length ≤ ws.length ∧ r <:+ ws := by
  cases ws with
  | nil => rw [pSum] at h; cases h
  | cons w ws =>
    rw [pSum] at h
    split at h
    · cases h
    · obtain ⟨⟨q, r'⟩, h1, h2⟩ := Option.map_eq_some_iff.mp h
      cases h2
      obtain ⟨a1, a2, a3⟩ := pParts_len R _ ws _ _ h1
      refine ⟨?_, ?_, a3.trans (List.suffix_cons _ _)⟩ <;> simp only [List.length_cons, List.length_nil] at a2 ⊢ <;> (first | lia | omega)
theorem pMany_len {p : List Str → Option (St × List Str)} {N f : Nat} (hp : ∀ ws s r, p ws = some (s, r) → ws.length ≤ N → r.length < ws.length ∧ r <:+ ws ∧ s.wi ≤ f ∧ s.Sm N) :
    ∀ (m : Nat) (ws : List Str) (l : Sts) (r : List Str), pMany p m ws = some (l, r) → ws.length ≤ N → l.len + r.length ≤ ws.length ∧ r <:+ ws ∧ l.wi ≤ f ∧ l.Sm N
  | 0, ws, l, r, h, _ => by
    rw [pMany] at h; cases h
    exact ⟨by simp [Sts.len], List.suffix_refl _, Nat.zero_le _, trivial⟩
  | m + 1, ws, l, r, h, hN => by
    rw [pMany] at h
    split at h
    · cases h
    · rename_i s r1 h1
      obtain ⟨⟨l2, r2⟩, h2, h3⟩ := Option.map_eq_some_iff.mp h
      cases h3
      obtain ⟨a1, a0, a2, a3⟩ := hp ws s r1 h1 hN
      obtain ⟨b1, b0, b2, b3⟩ := pMany_len hp m r1 l2 r2 h2 (by (first | lia | omega))
      exact ⟨by show l2.len + 1 + r2.length ≤ _; (first | lia | omega), b0.trans a0, Nat.max_le.mpr ⟨a2, b2⟩, a3, b3⟩
theorem parse_len (R : Rd) (N : Nat) : ∀ (f : Nat) (ws : List Str) (s : St) (r : List Str), parse R f ws = some (s, r) → ws.length ≤ N → r.length < ws.length ∧ r <:+ ws ∧ s.wi ≤ f ∧ s.Sm N
  | 0, ws, s, r, h, _ => by rw [parse] at h; cases h
  | f + 1, [], s, r, h, _ => by rw [parse] at h; cases h
  | f + 1, kind :: ws, s, r, h, hN => by
    rw [List.length_cons] at hN
    rw [parse] at h
    cases hk : R.kn kind with
    | above =>
      rw [hk] at h
      obtain ⟨⟨⟨k, ps⟩, r'⟩, h1, h2⟩ := Option.map_eq_some_iff.mp (show (pSum R ws).map _ = _ from h)
      cases h2
      obtain ⟨a1, a2, a3⟩ := pSum_len h1
      exact ⟨by show r'.length < _; rw [List.length_cons]; (first | lia | omega), a3.trans (List.suffix_cons _ _), Nat.succ_le_succ (Nat.zero_le _), show ps.length ≤ N by (first | lia | omega)⟩
    | nought =>
      rw [hk] at h
      obtain ⟨⟨⟨k, ps⟩, r'⟩, h1, h2⟩ := Option.map_eq_some_iff.mp (show (pSum R ws).map _ = _ from h)
      cases h2
      obtain ⟨a1, a2, a3⟩ := pSum_len h1
      exact ⟨by show r'.length < _; rw [List.length_cons]; (first | lia | omega), a3.trans (List.suffix_cons _ _), Nat.succ_le_succ (Nat.zero_le _), show ps.length ≤ N by (first | lia | omega)⟩
    | goes =>
      rw [hk] at h
      cases ws with
      | nil => cases h
      | cons w ws =>
        rw [pBody] at h
        split at h
        · cases h
        · split at h
          · cases h
          · obtain ⟨⟨⟨k, ps⟩, r'⟩, h1, h2⟩ := Option.map_eq_some_iff.mp h
            cases h2
            obtain ⟨a1, a2, a3⟩ := pSum_len h1
            rw [List.length_cons] at hN
            exact ⟨by show r'.length < _; rw [List.length_cons, List.length_cons]; (first | lia | omega), (a3.trans (List.suffix_cons _ _)).trans (List.suffix_cons _ _), Nat.succ_le_succ (Nat.zero_le _), show ps.length ≤ N by (first | lia | omega)⟩
    | no =>
      rw [hk] at h
      obtain ⟨⟨s', r'⟩, h1, h2⟩ := Option.map_eq_some_iff.mp (show (parse R f ws).map _ = _ from h)
      cases h2
      obtain ⟨a1, a0, a2, a3⟩ := parse_len R N f ws s' r' h1 (by (first | lia | omega))
      exact ⟨by show r'.length < _; rw [List.length_cons]; (first | lia | omega), a0.trans (List.suffix_cons _ _), Nat.succ_le_succ a2, a3⟩
    | conn a =>
      rw [hk] at h
      cases ws with
      | nil => cases h
      | cons w ws =>
        rw [pBody] at h
        split at h
        · cases h
        · split at h
          · cases h
          · obtain ⟨⟨l, r'⟩, h1, h2⟩ := Option.map_eq_some_iff.mp h
            cases h2
            rw [List.length_cons] at hN
            obtain ⟨a1, a0, a2, a3⟩ := pMany_len (fun ws s r h hN => parse_len R N f ws s r h hN) _ ws l r' h1 (by (first | lia | omega))
            exact ⟨by show r'.length < _; rw [List.length_cons, List.length_cons]; (first | lia | omega), (a0.trans (List.suffix_cons _ _)).trans (List.suffix_cons _ _), Nat.succ_le_succ a2, show l.len ≤ N by (first | lia | omega), a3⟩
    | bind e =>
      rw [hk] at h
      cases ws with
      | nil => cases h
      | cons w ws =>
        rw [pBody] at h
        split at h
        · obtain ⟨⟨s', r'⟩, h1, h2⟩ := Option.map_eq_some_iff.mp h
          cases h2
          rw [List.length_cons] at hN
          obtain ⟨a1, a0, a2, a3⟩ := parse_len R N f ws s' r' h1 (by (first | lia | omega))
          exact ⟨by show r'.length < _; rw [List.length_cons, List.length_cons]; (first | lia | omega), (a0.trans (List.suffix_cons _ _)).trans (List.suffix_cons _ _), Nat.succ_le_succ a2, a3⟩
        · cases h
    | other => rw [hk] at h; cases h
end Mine
end

section
open PySem PySem.W PyProof.Rows PySem.Calls PyProof PySem.NumText
set_option Elab.async false
set_option maxRecDepth 100000
set_option linter.unusedVariables false
namespace Mine
theorem drop_get {ws : List Str} {k : Nat} {w : Str} (h : ws[k]? = some w) : ws.drop k = w :: ws.drop (k + 1) := by
  obtain ⟨hk, rfl⟩ := List.getElem?_eq_some_iff.mp h
  exact List.drop_eq_getElem_cons hk
theorem drop_none {ws : List Str} {k : Nat} (h : ws[k]? = none) : ws.drop k = [] := List.drop_eq_nil_of_le (List.getElem?_eq_none_iff.mp h)
theorem get_lt {ws : List Str} {k : Nat} {w : Str} (h : ws[k]? = some w) : k < ws.length := (List.getElem?_eq_some_iff.mp h).1
theorem pSum_nil (R : Rd) : pSum R [] = none := rfl
theorem pSum_no (R : Rd) {w : Str} (r : List Str) (h : R.num w = none) : pSum R (w :: r) = none := by rw [pSum, h]
theorem pParts_nil (R : Rd) (acc : List (Str × Int)) : pParts R acc [] = none := by rw [pParts]
theorem pParts_no (R : Rd) (acc : List (Str × Int)) {w : Str} (r : List Str) (hf : R.fin w = false) (h : R.num w = none) : pParts R acc (w :: r) = none := by
  cases r with
  | nil => rw [pParts, if_neg (by rw [hf]; decide)]
  | cons nm r => rw [pParts, if_neg (by rw [hf]; decide), h]
theorem pParts_one (R : Rd) (acc : List (Str × Int)) {w : Str} (hf : R.fin w = false) : pParts R acc [w] = none := by
  rw [pParts, if_neg (by rw [hf]; decide)]
theorem pParts_bad (R : Rd) (acc : List (Str × Int)) {w nm : Str} (r : List Str) {i : Int} (hf : R.fin w = false) (hi : R.num w = some i) (h : (i != 0 && R.name nm && lastLt acc nm) = false) : pParts R acc (w :: nm :: r) = none := by
  rw [pParts, if_neg (by rw [hf]; decide), hi]
  dsimp only
  rw [if_neg (by rw [h]; decide)]
noncomputable def pConn (R : Rd) (p : List Str → Option (St × List Str)) : List Str → Option (Sts × List Str)
  | [] => none
  | w :: r => match R.num w with
    | none => none
    | some m => if m < 0 then none else pMany p m.toNat r
theorem pBody_conn (R : Rd) (p : List Str → Option (St × List Str)) (a : Bool) (r : List Str) : pBody R p r (.conn a) = (pConn R p r).map fun q => (St.conn a q.1, q.2) := by
  cases r with
  | nil => rfl
  | cons w r =>
    rw [pBody, pConn]
    cases R.num w with
    | none => rfl
    | some m => dsimp only; split <;> rfl
theorem pConn_no (R : Rd) (p : List Str → Option (St × List Str)) {w : Str} (r : List Str) (h : R.num w = none) : pConn R p (w :: r) = none := by rw [pConn, h]
theorem pConn_neg (R : Rd) (p : List Str → Option (St × List Str)) {w : Str} (r : List Str) {m : Int} (h : R.num w = some m) (hm : m < 0) : pConn R p (w :: r) = none := by
  rw [pConn, h]; dsimp only; rw [if_pos hm]
theorem pConn_k (R : Rd) (p : List Str → Option (St × List Str)) {w : Str} (r : List Str) {m : Int} (h : R.num w = some m) (hm : ¬ m < 0) : pConn R p (w :: r) = pMany p m.toNat r := by
  rw [pConn, h]; dsimp only; rw [if_neg hm]
theorem pGoes_no (R : Rd) (p : List Str → Option (St × List Str)) {w : Str} (r : List Str) (h : R.num w = none) : pBody R p (w :: r) .goes = none := by rw [pBody, h]
theorem pGoes_low (R : Rd) (p : List Str → Option (St × List Str)) {w : Str} (r : List Str) {m : Int} (h : R.num w = some m) (hm : m < 1) : pBody R p (w :: r) .goes = none := by
  rw [pBody, h]; dsimp only; rw [if_pos hm]
theorem pGoes_k (R : Rd) (p : List Str → Option (St × List Str)) {w : Str} (r : List Str) {m : Int} (h : R.num w = some m) (hm : ¬ m < 1) : pBody R p (w :: r) .goes = (pSum R r).map fun q => (St.goes m q.1.1 q.1.2, q.2) := by
  rw [pBody, h]; dsimp only; rw [if_neg hm]
theorem pBind_no (R : Rd) (p : List Str → Option (St × List Str)) {e : Bool} {w : Str} (r : List Str) (h : R.name w = false) : pBody R p (w :: r) (.bind e) = none := by
  rw [pBody, if_neg (by rw [h]; decide)]
theorem pBind_k (R : Rd) (p : List Str → Option (St × List Str)) {e : Bool} {w : Str} (r : List Str) (h : R.name w = true) : pBody R p (w :: r) (.bind e) = (p r).map fun q => (St.bind e w q.1, q.2) := by
  rw [pBody, if_pos h]
noncomputable def preS : List St → Sts → Sts
  | [], l => l
  | s :: r, l => .cons s (preS r l)
theorem preS_snoc (s : St) (l : Sts) : ∀ acc : List St, preS (acc ++ [s]) l = preS acc (.cons s l)
  | [] => rfl
  | t :: acc => by rw [List.cons_append, preS, preS_snoc s l acc, preS]
theorem preS_ds : ∀ (acc : List St) (l : Sts), (preS acc l).ds = acc.map St.d ++ l.ds
  | [], l => rfl
  | s :: acc, l => by rw [preS, Sts.ds, preS_ds acc l]; rfl
theorem pMany_no (p : List Str → Option (St × List Str)) (m : Nat) {r : List Str} (h : p r = none) : pMany p (m + 1) r = none := by rw [pMany, h]
theorem pMany_k (p : List Str → Option (St × List Str)) (m : Nat) {r r' : List Str} {s : St} (h : p r = some (s, r')) : pMany p (m + 1) r = (pMany p m r').map fun q => (.cons s q.1, q.2) := by rw [pMany, h]
theorem map_pre {o : Option (Sts × List Str)} {acc : List St} {s : St} : ((o.map fun q => (Sts.cons s q.1, q.2)).map fun q => (preS acc q.1, q.2)) = o.map fun q => (preS (acc ++ [s]) q.1, q.2) := by
  cases o with
  | none => rfl
  | some q => simp [preS_snoc]
theorem kn_above' {w : Str} (h : (w == "above") = true) : kn w = .above := by rw [eq_of_beq h]; exact kn_above
theorem kn_nought' {w : Str} (h : (w == "nought") = true) : kn w = .nought := by rw [eq_of_beq h]; exact kn_nought
theorem kn_goes' {w : Str} (h : (w == "goes") = true) : kn w = .goes := by rw [eq_of_beq h]; exact kn_goes
theorem kn_not' {w : Str} (h : (w == "not") = true) : kn w = .no := by rw [eq_of_beq h]; exact kn_not
theorem kn_and' {w : Str} (h : (w == "and") = true) : kn w = .conn true := by rw [eq_of_beq h]; exact kn_cw true
theorem kn_or' {w : Str} (h : (w == "or") = true) : kn w = .conn false := by rw [eq_of_beq h]; exact kn_cw false
theorem kn_some' {w : Str} (h : (w == "some") = true) : kn w = .bind true := by rw [eq_of_beq h]; exact kn_bw true
theorem kn_all' {w : Str} (h : (w == "all") = true) : kn w = .bind false := by rw [eq_of_beq h]; exact kn_bw false
theorem kn_other' {w : Str} (h1 : (w == "above") = false) (h2 : (w == "nought") = false) (h3 : (w == "goes") = false) (h4 : (w == "not") = false) (h5 : (w == "and") = false) (h6 : (w == "or") = false) (h7 : (w == "some") = false) (h8 : (w == "all") = false) : kn w = .other := by
  unfold kn
  rw [h1, h2, h3, h4, h5, h6, h7, h8]; rfl
noncomputable def wordK : Kn → Str
  | .above => "above"
  | .nought => "nought"
  | .goes => "goes"
  | .no => "not"
  | .conn a => cw a
  | .bind e => bw e
  | .other => ""
theorem kn_word {w : Str} {k : Kn} (h : kn w = k) (ho : k ≠ .other) : w = wordK k := by
  subst h
  cases h1 : (w == "above") with
  | true => rw [kn_above' h1]; exact eq_of_beq h1
  | false =>
  cases h2 : (w == "nought") with
  | true => rw [kn_nought' h2]; exact eq_of_beq h2
  | false =>
  cases h3 : (w == "goes") with
  | true => rw [kn_goes' h3]; exact eq_of_beq h3
  | false =>
  cases h4 : (w == "not") with
  | true => rw [kn_not' h4]; exact eq_of_beq h4
  | false =>
  cases h5 : (w == "and") with
  | true => rw [kn_and' h5]; exact eq_of_beq h5
  | false =>
  cases h6 : (w == "or") with
  | true => rw [kn_or' h6]; exact eq_of_beq h6
  | false =>
  cases h7 : (w == "some") with
  | true => rw [kn_some' h7]; exact eq_of_beq h7
  | false =>
  cases h8 : (w == "all") with
  | true => rw [kn_all' h8]; exact eq_of_beq h8
  | false => exact absurd (kn_other' h1 h2 h3 h4 h5 h6 h7 h8) ho
structure KnT (w : Str) (k : Kn) : Prop where
  above : (w == "above") = decide (k = .above)
  nought : (w == "nought") = decide (k = .nought)
  goes : (w == "goes") = decide (k = .goes)
  no : (w == "not") = decide (k = .no)
  and_ : (w == "and") = decide (k = .conn true)
  or_ : (w == "or") = decide (k = .conn false)
  some_ : (w == "some") = decide (k = .bind true)
  all_ : (w == "all") = decide (k = .bind false)
theorem knT_of {w : Str} {k : Kn} (h : kn w = k) : KnT w k := by
  have tst : ∀ (x : Str) (kx : Kn), kn x = kx → kx ≠ .other → wordK kx = x → (w == x) = decide (k = kx) := fun x kx hx ho hw => by
    cases e : (w == x) with
    | true =>
      have : w = x := eq_of_beq e
      subst this
      rw [← h, hx]; simp
    | false =>
      refine (decide_eq_false fun q => ?_).symm
      subst q
      have := kn_word h ho
      rw [this, hw] at e
      simp at e
  exact ⟨tst _ _ kn_above (by decide) rfl, tst _ _ kn_nought (by decide) rfl, tst _ _ kn_goes (by decide) rfl, tst _ _ kn_not (by decide) rfl,
    tst _ _ (kn_cw true) (by decide) rfl, tst _ _ (kn_cw false) (by decide) rfl, tst _ _ (kn_bw true) (by decide) rfl, tst _ _ (kn_bw false) (by decide) rfl⟩
end Mine
end

section
open PySem PySem.W PyProof.Rows PySem.Calls PyProof PySem.NumText
set_option Elab.async false
set_option maxRecDepth 100000
set_option linter.unusedVariables false
namespace Mine
noncomputable def St.kw : St → Str
  | .above _ _ => "above"
  | .nought _ _ => "nought"
  | .goes _ _ _ => "goes"
  | .neg _ => "not"
  | .conn a _ => cw a
  | .bind e _ _ => bw e
noncomputable def St.tl : St → List D
  | .above k ps => [sumD k ps]
  | .nought k ps => [sumD k ps]
  | .goes m k ps => [.int m, sumD k ps]
  | .neg s => [s.d]
  | .conn _ l => [.tup l.ds]
  | .bind _ nm s => [.str nm, s.d]
theorem St.d_eq (s : St) : s.d = .tup (.str s.kw :: s.tl) := by cases s <;> rfl
theorem Sts.All.and {P Q : St → Prop} : ∀ {l : Sts}, l.All P → l.All Q → l.All fun s => P s ∧ Q s
  | .nil, _, _ => trivial
  | .cons s l, ⟨h1, h2⟩, ⟨h3, h4⟩ => ⟨⟨h1, h3⟩, Sts.All.and h2 h4⟩
theorem Sts.Gd.all {ss : List Str} {M : Nat} : ∀ {l : Sts}, l.Gd ss M → l.All fun s => s.Gd ss M
  | .nil, _ => trivial
  | .cons s l, h => ⟨h.1, Sts.Gd.all h.2⟩
theorem Sts.dp_all : ∀ (l : Sts) {n : Nat}, l.dp ≤ n → l.All fun s => s.dp ≤ n
  | .nil, _, _ => trivial
  | .cons s l, n, h => by
    have h1 : max s.dp l.dp ≤ n := h
    exact ⟨by (first | lia | omega), Sts.dp_all l (by (first | lia | omega))⟩
noncomputable def wordTag (w : Str) : Nat := if w = "above" then 0 else if w = "nought" then 1 else if w = "goes" then 2 else if w = "not" then 3 else if w = "and" ∨ w = "or" then 4 else 5
noncomputable def St.tag : St → Nat
  | .above _ _ => 0
  | .nought _ _ => 1
  | .goes _ _ _ => 2
  | .neg _ => 3
  | .conn _ _ => 4
  | .bind _ _ _ => 5
theorem kw_tag (s : St) : wordTag s.kw = s.tag := by
  have h1 : wordTag "above" = 0 := by decide +kernel
  have h2 : wordTag "nought" = 1 := by decide +kernel
  have h3 : wordTag "goes" = 2 := by decide +kernel
  have h4 : wordTag "not" = 3 := by decide +kernel
  have h5 : ∀ a, wordTag (cw a) = 4 := by decide +kernel
  have h6 : ∀ a, wordTag (bw a) = 5 := by decide +kernel
  cases s with
  | above k ps => exact h1
  | nought k ps => exact h2
  | goes m k ps => exact h3
  | neg s => exact h4
  | conn a l => exact h5 a
  | bind e nm s => exact h6 e
theorem d_parts {s t : St} (h : s.d = t.d) : s.kw = t.kw ∧ s.tl = t.tl ∧ s.tag = t.tag := by
  rw [St.d_eq, St.d_eq] at h
  injection h with h
  injection h with h1 h2
  injection h1 with h1
  exact ⟨h1, h2, by rw [← kw_tag, ← kw_tag, h1]⟩
theorem pD_inj : ∀ {l m : List (Str × Int)}, l.map pD = m.map pD → l = m
  | [], [], _ => rfl
  | [], _ :: _, h => by cases h
  | _ :: _, [], h => by cases h
  | p :: l, q :: m, h => by
    injection h with h1 h2
    injection h1 with h1
    injection h1 with h3 h4
    injection h3 with h3
    injection h4 with h4
    injection h4 with h4
    rw [pD_inj h2]
    congr 1
    exact Prod.ext h3 h4
theorem sumD_inj {k k' : Int} {ps ps' : List (Str × Int)} (h : sumD k ps = sumD k' ps') : k = k' ∧ ps = ps' := by
  injection h with h
  injection h with h1 h2
  injection h1 with h1
  injection h2 with h2
  injection h2 with h2
  exact ⟨h1, pD_inj h2⟩
theorem cw_inj : ∀ {a b : Bool}, cw a = cw b → a = b := by decide +kernel
theorem bw_inj : ∀ {a b : Bool}, bw a = bw b → a = b := by decide +kernel
mutual
theorem St.d_inj : ∀ {s t : St}, s.d = t.d → s = t
  | .above k ps, t, h => by
    obtain ⟨h1, h2, h3⟩ := d_parts h
    cases t with
    | above k' ps' => injection h2 with h2; obtain ⟨rfl, rfl⟩ := sumD_inj h2; rfl
    | _ => cases h3
  | .nought k ps, t, h => by
    obtain ⟨h1, h2, h3⟩ := d_parts h
    cases t with
    | nought k' ps' => injection h2 with h2; obtain ⟨rfl, rfl⟩ := sumD_inj h2; rfl
    | _ => cases h3
  | .goes m k ps, t, h => by
    obtain ⟨h1, h2, h3⟩ := d_parts h
    cases t with
    | goes m' k' ps' => injection h2 with h2 h4; injection h2 with h2; injection h4 with h4; obtain ⟨rfl, rfl⟩ := sumD_inj h4; rw [h2]
    | _ => cases h3
  | .neg s, t, h => by
    obtain ⟨h1, h2, h3⟩ := d_parts h
    cases t with
    | neg s' => injection h2 with h2; rw [St.d_inj h2]
    | _ => cases h3
  | .conn a l, t, h => by
    obtain ⟨h1, h2, h3⟩ := d_parts h
    cases t with
    | conn a' l' => injection h2 with h2; injection h2 with h2; rw [Sts.ds_inj h2, cw_inj h1]
    | _ => cases h3
  | .bind e nm s, t, h => by
    obtain ⟨h1, h2, h3⟩ := d_parts h
    cases t with
    | bind e' nm' s' => injection h2 with h2 h4; injection h2 with h2; injection h4 with h4; rw [St.d_inj h4, h2, bw_inj h1]
    | _ => cases h3
theorem Sts.ds_inj : ∀ {l m : Sts}, l.ds = m.ds → l = m
  | .nil, .nil, _ => rfl
  | .nil, .cons _ _, h => by cases h
  | .cons _ _, .nil, h => by cases h
  | .cons s l, .cons t m, h => by
    injection h with h1 h2
    rw [St.d_inj h1, Sts.ds_inj h2]
end
theorem Sts.mem_ds : ∀ {l : Sts} {d : D} {P : St → Prop}, l.All P → d ∈ l.ds → ∃ t, t.d = d ∧ P t
  | .nil, _, _, _, h => by cases h
  | .cons s l, d, P, ⟨h1, h2⟩, h => by
    rcases List.mem_cons.mp h with rfl | h
    · exact ⟨s, rfl, h1⟩
    · exact Sts.mem_ds h2 h
noncomputable def wiF (d : D) : Option D := open Classical in if h : ∃ t : St, t.d = d then some (.int (h.choose.wi : Nat)) else none
theorem wiF_d (t : St) : wiF t.d = some (.int (t.wi : Nat)) := by
  have h : ∃ t' : St, t'.d = t.d := ⟨t, rfl⟩
  unfold wiF
  rw [dif_pos h, St.d_inj h.choose_spec]
noncomputable def Sts.wis : Sts → List Int
  | .nil => []
  | .cons s l => (s.wi : Nat) :: l.wis
theorem wiF_list : ∀ l : Sts, l.ds.filterMap wiF = l.wis.map .int
  | .nil => rfl
  | .cons s l => by rw [Sts.ds, List.filterMap_cons_some (wiF_d s), wiF_list l]; rfl
theorem wis_len : ∀ l : Sts, l.wis.length = l.len
  | .nil => rfl
  | .cons s l => by rw [Sts.wis, List.length_cons, wis_len l]; rfl
theorem wis_nn : ∀ (l : Sts), ∀ i ∈ l.wis, 0 ≤ i
  | .nil, i, h => by cases h
  | .cons s l, i, h => by
    rcases List.mem_cons.mp h with rfl | h
    · (first | lia | omega)
    · exact wis_nn l i h
theorem wis_max : ∀ (l : Sts) (a : Nat), l.wis.foldl (fun (a i : Int) => if i > a then i else a) (a : Int) = ((max a l.wi : Nat) : Int)
  | .nil, a => by simp [Sts.wis, Sts.wi]
  | .cons s l, a => by
    rw [Sts.wis, List.foldl_cons]
    have e : (if ((s.wi : Nat) : Int) > (a : Int) then ((s.wi : Nat) : Int) else (a : Int)) = ((max a s.wi : Nat) : Int) := by
      split
      · rename_i h; rw [Nat.max_eq_right (Nat.le_of_lt (Int.ofNat_lt.mp h))]
      · rename_i h; rw [Nat.max_eq_left (Nat.le_of_not_lt fun q => h (Int.ofNat_lt.mpr q))]
    rw [e, wis_max l (max a s.wi), Nat.max_assoc]; rfl
theorem log_ok {i : Int} (h : i.natAbs < 10 ^ 60) : i.natAbs.log2 < 1920 := by
  by_cases h0 : i.natAbs = 0
  · rw [h0]; decide
  · have : i.natAbs.log2 < 200 := (Nat.log2_lt h0).mpr (Nat.lt_trans h (by decide))
    (first | lia | omega)
theorem ws_all {N : Nat} : ∀ {l : Sts}, l.ws.length ≤ N → l.All fun t => t.ws.length ≤ N
  | .nil, _ => trivial
  | .cons s l, h => by
    rw [Sts.ws, List.length_append] at h
    exact ⟨by (first | lia | omega), ws_all (by (first | lia | omega))⟩
theorem Sts.Sm.all {N : Nat} : ∀ {l : Sts}, l.Sm N → l.All fun s => s.Sm N
  | .nil, _ => trivial
  | .cons s l, h => ⟨h.1, Sts.Sm.all h.2⟩
theorem ps_len {ss : List Str} {ps : List (Str × Int)} (g : Good ss ps) : ps.length ≤ ss.length := by
  have := nodup_len (strict_nodup g.inc) (m := ss) fun x hx => by obtain ⟨p, hp, rfl⟩ := List.mem_map.mp hx; exact g.mem p hp
  rwa [List.length_map] at this
mutual
theorem St.Gd.sm {ss : List Str} {M N : Nat} (h4 : ss.length ≤ N) (h30 : 30 ≤ N) : ∀ {s : St}, s.Gd ss M → s.Sm N
  | .above k ps, g => Nat.le_trans (ps_len g.good) h4
  | .nought k ps, g => Nat.le_trans (ps_len g.good) h4
  | .goes m k ps, g => Nat.le_trans (ps_len g.2.good) h4
  | .neg s, g => St.Gd.sm h4 h30 (s := s) g
  | .conn _ l, g => ⟨Nat.le_trans g.1 h30, Sts.Gd.sm h4 h30 g.2⟩
  | .bind _ nm s, g => St.Gd.sm h4 h30 (s := s) g.2
theorem Sts.Gd.sm {ss : List Str} {M N : Nat} (h4 : ss.length ≤ N) (h30 : 30 ≤ N) : ∀ {l : Sts}, l.Gd ss M → l.Sm N
  | .nil, _ => trivial
  | .cons s l, g => ⟨St.Gd.sm h4 h30 g.1, Sts.Gd.sm h4 h30 g.2⟩
end
end Mine
end

section
open PySem PySem.W PyProof.Rows PySem.Calls PyProof PySem.NumText
set_option Elab.async false
set_option maxRecDepth 100000
set_option linter.unusedVariables false
namespace Mine
noncomputable def Lt (w : Str) : Prop := ∀ c ∈ w.cps.toList, 97 ≤ c ∧ c ≤ 122
theorem lt_nil : Lt "" := by
  intro c hc
  have : ("" : Str).cps.toList = [] := rfl
  rw [this] at hc; cases hc
theorem lt_app {a b : Str} (h : Lt a) (h' : Lt b) : Lt (a ++ b) := by
  intro c hc
  have : (a ++ b).cps.toList = a.cps.toList ++ b.cps.toList := by
    show (a.cps ++ b.cps).toList = _
    simp
  rw [this] at hc
  rcases List.mem_append.mp hc with hc | hc
  · exact h c hc
  · exact h' c hc
theorem lt_one {j : Nat} (h : j < 26) : Lt ⟨#[97 + j]⟩ := by
  intro c hc
  have : c = 97 + j := by simpa using hc
  (first | lia | omega)
theorem slice_mem {x : Str} {l u : Option Int} {c : Nat} (h : c ∈ (Txt.slice x l u).cps.toList) : c ∈ x.cps.toList := by
  unfold Txt.slice at h
  split at h
  · exact h
  · have h : c ∈ (PySem.Builtin.Str.strSliceIndices l u 1 x.length).filterMap (x.cps[·]?) := by simpa using h
    obtain ⟨a, _, ha⟩ := List.mem_filterMap.mp h
    exact Array.mem_toList_iff.mpr (Array.mem_of_getElem? ha)
theorem lt_slice {x : Str} {l u : Option Int} (h : Lt x) : Lt (Txt.slice x l u) := fun c hc => h c (slice_mem hc)
theorem rep_mem (x : Array Nat) (c : Nat) : ∀ (n : Nat) (acc : Array Nat), c ∈ ((List.replicate n x).foldl (· ++ ·) acc).toList → c ∈ acc.toList ∨ c ∈ x.toList
  | 0, acc, h => .inl (by simpa using h)
  | n + 1, acc, h => by
    rw [List.replicate_succ, List.foldl_cons] at h
    rcases rep_mem x c n _ h with h | h
    · rw [Array.toList_append] at h
      exact List.mem_append.mp h
    · exact .inr h
theorem lt_mul {x : Str} {n : Int} (h : Lt x) : Lt (Txt.mul x n) := by
  intro c hc
  unfold Txt.mul at hc
  split at hc
  · have : c ∈ ([] : List Nat) := hc
    cases this
  · split at hc
    · exact h c hc
    · rcases rep_mem x.cps c _ _ hc with q | q
      · have : c ∈ ([] : List Nat) := q
        cases this
      · exact h c q
theorem nmA_nm {w : Str} {q : Int} (hw : w.length = 1) (hl : Lt w) : ∀ s ∈ [nmA w q 0, nmA w q 1, nmA w q 2, nmA w q 3], nameW s = true := by
  have h : ∀ k, nameW (nmA w q k) = true := fun k => by
    have e : (nmA w q k).length = (1 + (k + q) % 8).toNat * 1 := by unfold nmA; rw [mul_length (by (clear hw; (first | lia | omega))), hw]
    exact (nameW_iff _).mpr ⟨by (clear hw; (first | lia | omega)), by (clear hw; (first | lia | omega)), lt_mul hl⟩
  exact mem4l (P := fun s : Str => nameW s = true) (h _) (h _) (h _) (h _)
theorem usual_nm : ∀ s ∈ usualL, nameW s = true := by decide +kernel
theorem nmB_nm {q : Int} : ∀ s ∈ [nmB q 0, nmB q 1, nmB q 2, nmB q 3], nameW s = true := by
  have h : ∀ k, nameW (nmB q k) = true := fun k => by
    have hj : ((q + offs k) % 25).toNat < usualL.length := by rw [show usualL.length = 25 from rfl]; (first | lia | omega)
    unfold nmB
    rw [List.getElem?_eq_getElem hj]
    exact usual_nm _ (List.getElem_mem hj)
  exact mem4l (P := fun s : Str => nameW s = true) (h _) (h _) (h _) (h _)
theorem sl_to_len {w : Str} {j : Nat} (h : j ≤ w.length) : (Txt.slice w none (some (j : Int))).length = j := by
  rw [sl_to h]
  show (w.cps.toList.take j).toArray.size = j
  rw [List.size_toArray, List.length_take, str_len]; (first | lia | omega)
theorem sl_from_len {w : Str} {j : Nat} (h : j ≤ w.length) : (Txt.slice w (some (j : Int)) none).length = w.length - j := by
  rw [sl_from h]
  show (w.cps.toList.drop j).toArray.size = _
  rw [List.size_toArray, List.length_drop, str_len]
theorem nmC_nm {w : Str} {q s : Int} (hl : Lt w) (h8 : w.length ≤ 8) (h0 : 0 ≤ s) (h1 : s < w.length) :
    ∀ x ∈ [nmC (Txt.slice w none (some s)) (Txt.slice w (some (s + 1)) none) q 0, nmC (Txt.slice w none (some s)) (Txt.slice w (some (s + 1)) none) q 1, nmC (Txt.slice w none (some s)) (Txt.slice w (some (s + 1)) none) q 2, nmC (Txt.slice w none (some s)) (Txt.slice w (some (s + 1)) none) q 3], nameW x = true := by
  obtain ⟨j, rfl⟩ : ∃ j : Nat, s = j := ⟨s.toNat, by (first | lia | omega)⟩
  have ea := sl_to_len (w := w) (j := j) (by (first | lia | omega))
  have eb : (Txt.slice w (some ((j : Int) + 1)) none).length = w.length - (j + 1) := sl_from_len (j := j + 1) (by (first | lia | omega))
  have h : ∀ k, nameW (nmC (Txt.slice w none (some (j : Int))) (Txt.slice w (some ((j : Int) + 1)) none) q k) = true := fun k => by
    have la : Lt (Txt.slice w none (some (j : Int))) := lt_slice hl
    have lb : Lt (Txt.slice w (some ((j : Int) + 1)) none) := lt_slice hl
    have e : (nmC (Txt.slice w none (some (j : Int))) (Txt.slice w (some ((j : Int) + 1)) none) q k).length = (Txt.slice w none (some (j : Int))).length + 1 + (Txt.slice w (some ((j : Int) + 1)) none).length := by
      show (_ ++ #[_] ++ _ : Array Nat).size = _
      rw [Array.size_append, Array.size_append]; rfl
    exact (nameW_iff _).mpr ⟨by (first | lia | omega), by (first | lia | omega), lt_app (lt_app la (lt_one (by (first | lia | omega)))) lb⟩
  exact mem4l (P := fun s : Str => nameW s = true) (h _) (h _) (h _) (h _)
theorem mulOk100 {x : Str} {m : Int} (hx : x.length = 1) (h1 : 1 ≤ m) (h8 : m ≤ 100) : MulOk x m := by
  refine ⟨?_, fun _ _ => ?_, fun _ _ => ?_⟩
  · simp; (clear hx; (first | lia | omega))
  · rw [hx]
    exact Int.not_lt.mpr (Int.le_ediv_of_mul_le (by (clear hx; (first | lia | omega))) (by (clear hx; (first | lia | omega))))
  · rw [hx]
    have : 1 * m.toNat ≤ sizeLine := Nat.le_trans (show _ ≤ 100 by (clear hx; (first | lia | omega))) (by decide)
    unfold PySem.Builtin.Str.tooLong
    simpa using this
end Mine
end

section
open PySem PySem.W PyProof.Rows PySem.Calls PyProof
set_option Elab.async false
set_option maxRecDepth 100000
namespace Mine
noncomputable def kf : Params → Frag := fun P => [
 (2, { cls := Value.none, data := Data.dict #[] }),
 (3, { cls := Value.type "dict", data := Data.dict #[{ hash := PyData.keyHash P (Str.ofString "__name__"), key := Value.str (Str.ofString "__name__") 165, val := Value.str (Str.ofString "law_uf010003_10") 371 }, { hash := PyData.keyHash P (Str.ofString "__doc__"), key := Value.str (Str.ofString "__doc__") 166, val := Value.none }, { hash := PyData.keyHash P (Str.ofString "__package__"), key := Value.str (Str.ofString "__package__") 167, val := Value.none }, { hash := PyData.keyHash P (Str.ofString "__loader__"), key := Value.str (Str.ofString "__loader__") 168, val := Value.builtin "__main__.__loader__#opaque" }, { hash := PyData.keyHash P (Str.ofString "__spec__"), key := Value.str (Str.ofString "__spec__") 169, val := Value.none }, { hash := PyData.keyHash P (Str.ofString "__annotations__"), key := Value.str (Str.ofString "__annotations__") 170, val := Value.ref 6 }, { hash := PyData.keyHash P (Str.ofString "__builtins__"), key := Value.str (Str.ofString "__builtins__") 171, val := Value.ref 4 }, { hash := PyData.keyHash P (Str.ofString "__file__"), key := Value.str (Str.ofString "__file__") 173, val := Value.str (Str.ofString "/claim/cut.py") 172 }, { hash := PyData.keyHash P (Str.ofString "__cached__"), key := Value.str (Str.ofString "__cached__") 174, val := Value.none }, { hash := PyData.keyHash P (Str.ofString "SomeError"), key := Value.str (Str.ofString "SomeError") 206, val := Value.ref 24 }, { hash := PyData.keyHash P (Str.ofString "NoValue"), key := Value.str (Str.ofString "NoValue") 222, val := Value.ref 37 }, { hash := PyData.keyHash P (Str.ofString "NotPlain"), key := Value.str (Str.ofString "NotPlain") 238, val := Value.ref 49 }, { hash := PyData.keyHash P (Str.ofString "NoNote"), key := Value.str (Str.ofString "NoNote") 254, val := Value.ref 61 }, { hash := PyData.keyHash P (Str.ofString "MOST_WITHIN"), key := Value.str (Str.ofString "MOST_WITHIN") 258, val := Value.int 40 257 }, { hash := PyData.keyHash P (Str.ofString "MOST_FIGURES"), key := Value.str (Str.ofString "MOST_FIGURES") 260, val := Value.int 60 259 }, { hash := PyData.keyHash P (Str.ofString "MOST_LETTERS"), key := Value.str (Str.ofString "MOST_LETTERS") 262, val := Value.int 8 261 }, { hash := PyData.keyHash P (Str.ofString "FIGURES"), key := Value.str (Str.ofString "FIGURES") 264, val := Value.str (Str.ofString "0123456789") 263 }, { hash := PyData.keyHash P (Str.ofString "LETTERS"), key := Value.str (Str.ofString "LETTERS") 266, val := Value.str (Str.ofString "abcdefghijklmnopqrstuvwxyz") 265 }, { hash := PyData.keyHash P (Str.ofString "sum_words"), key := Value.str (Str.ofString "sum_words") 276, val := Value.ref 70 }, { hash := PyData.keyHash P (Str.ofString "words_of"), key := Value.str (Str.ofString "words_of") 286, val := Value.ref 77 }, { hash := PyData.keyHash P (Str.ofString "written"), key := Value.str (Str.ofString "written") 293, val := Value.ref 84 }, { hash := PyData.keyHash P (Str.ofString "word_at"), key := Value.str (Str.ofString "word_at") 301, val := Value.ref 91 }, { hash := PyData.keyHash P (Str.ofString "number_at"), key := Value.str (Str.ofString "number_at") 312, val := Value.ref 98 }, { hash := PyData.keyHash P (Str.ofString "name_at"), key := Value.str (Str.ofString "name_at") 322, val := Value.ref 105 }, { hash := PyData.keyHash P (Str.ofString "sum_at"), key := Value.str (Str.ofString "sum_at") 334, val := Value.ref 112 }, { hash := PyData.keyHash P (Str.ofString "parts_at"), key := Value.str (Str.ofString "parts_at") 346, val := Value.ref 119 }, { hash := PyData.keyHash P (Str.ofString "statement_at"), key := Value.str (Str.ofString "statement_at") 360, val := Value.ref 126 }, { hash := PyData.keyHash P (Str.ofString "read"), key := Value.str (Str.ofString "read") 370, val := Value.ref 133 }, { hash := PyData.keyHash P (Str.ofString "_law_cell_at"), key := Value.str (Str.ofString "_law_cell_at") 380, val := Value.ref 140 }, { hash := PyData.keyHash P (Str.ofString "_law_whole"), key := Value.str (Str.ofString "_law_whole") 387, val := Value.ref 147 }, { hash := PyData.keyHash P (Str.ofString "_law_names_by"), key := Value.str (Str.ofString "_law_names_by") 393, val := Value.ref 152 }, { hash := PyData.keyHash P (Str.ofString "_law_sum_by"), key := Value.str (Str.ofString "_law_sum_by") 406, val := Value.ref 159 }, { hash := PyData.keyHash P (Str.ofString "_law_end_by"), key := Value.str (Str.ofString "_law_end_by") 417, val := Value.ref 166 }, { hash := PyData.keyHash P (Str.ofString "_law_plain_by"), key := Value.str (Str.ofString "_law_plain_by") 435, val := Value.ref 173 }, { hash := PyData.keyHash P (Str.ofString "_law_word_of"), key := Value.str (Str.ofString "_law_word_of") 443, val := Value.ref 180 }, { hash := PyData.keyHash P (Str.ofString "_law_big_by"), key := Value.str (Str.ofString "_law_big_by") 453, val := Value.ref 187 }, { hash := PyData.keyHash P (Str.ofString "_law_alike"), key := Value.str (Str.ofString "_law_alike") 462, val := Value.ref 194 }, { hash := PyData.keyHash P (Str.ofString "_law_bound_by"), key := Value.str (Str.ofString "_law_bound_by") 473, val := Value.ref 201 }, { hash := PyData.keyHash P (Str.ofString "_law_sum_words"), key := Value.str (Str.ofString "_law_sum_words") 482, val := Value.ref 208 }, { hash := PyData.keyHash P (Str.ofString "_law_words"), key := Value.str (Str.ofString "_law_words") 492, val := Value.ref 215 }, { hash := PyData.keyHash P (Str.ofString "_law_within"), key := Value.str (Str.ofString "_law_within") 498, val := Value.ref 220 }, { hash := PyData.keyHash P (Str.ofString "_law_number"), key := Value.str (Str.ofString "_law_number") 507, val := Value.ref 227 }, { hash := PyData.keyHash P (Str.ofString "_law_is_name"), key := Value.str (Str.ofString "_law_is_name") 515, val := Value.ref 234 }, { hash := PyData.keyHash P (Str.ofString "_law_sum_along"), key := Value.str (Str.ofString "_law_sum_along") 526, val := Value.ref 241 }, { hash := PyData.keyHash P (Str.ofString "_law_parts_along"), key := Value.str (Str.ofString "_law_parts_along") 538, val := Value.ref 248 }, { hash := PyData.keyHash P (Str.ofString "_law_along"), key := Value.str (Str.ofString "_law_along") 549, val := Value.ref 255 }, { hash := PyData.keyHash P (Str.ofString "_law_changed"), key := Value.str (Str.ofString "_law_changed") 562, val := Value.ref 262 }, { hash := PyData.keyHash P (Str.ofString "_law_read"), key := Value.str (Str.ofString "_law_read") 570, val := Value.ref 269 }, { hash := PyData.keyHash P (Str.ofString "_law_is_due"), key := Value.str (Str.ofString "_law_is_due") 578, val := Value.ref 276 }, { hash := PyData.keyHash P (Str.ofString "law"), key := Value.str (Str.ofString "law") 598, val := Value.ref 283 }] 50 }),
 (22, { cls := Value.type "tuple", data := Data.seq #[] }),
 (23, { cls := Value.type "dict", data := Data.dict #[{ hash := PyData.keyHash P (Str.ofString "__module__"), key := Value.str (Str.ofString "__module__") 196, val := Value.str (Str.ofString "somenumber.errors") 187 }, { hash := PyData.keyHash P (Str.ofString "__firstlineno__"), key := Value.str (Str.ofString "__firstlineno__") 200, val := Value.int 2 199 }, { hash := PyData.keyHash P (Str.ofString "__static_attributes__"), key := Value.str (Str.ofString "__static_attributes__") 201, val := Value.ref 22 }, { hash := PyData.keyHash P (Str.ofString "__weakref__"), key := Value.str (Str.ofString "__weakref__") 203, val := Value.ref 25 }, { hash := PyData.keyHash P (Str.ofString "__doc__"), key := Value.str (Str.ofString "__doc__") 204, val := Value.none }] 3 }),
 (24, { cls := Value.type "type", data := Data.cls { name := Str.ofString "SomeError", bases := [Value.type "ValueError"], mro := [Value.ref 24, Value.type "ValueError", Value.type "Exception", Value.type "BaseException", Value.type "object"], ns := 23, qualname := Str.ofString "SomeError", subclasses := [Value.ref 37, Value.ref 49, Value.ref 61] }, slots := #[some (Value.ref 15), none, some (Value.str (Str.ofString "SomeError") 189), some (Value.str (Str.ofString "SomeError") 197), some (Value.builtin "ValueError.__new__"), some (Value.bool true)] }),
 (25, { cls := Value.type "getset_descriptor", data := Data.fields #[Value.str (Str.ofString "__weakref__") 202, Value.ref 24, Value.builtin "ExceptionGroup.__weakref__", Value.none] }),
 (35, { cls := Value.type "tuple", data := Data.seq #[] }),
 (36, { cls := Value.type "dict", data := Data.dict #[{ hash := PyData.keyHash P (Str.ofString "__module__"), key := Value.str (Str.ofString "__module__") 214, val := Value.str (Str.ofString "somenumber.errors") 187 }, { hash := PyData.keyHash P (Str.ofString "__firstlineno__"), key := Value.str (Str.ofString "__firstlineno__") 218, val := Value.int 4 217 }, { hash := PyData.keyHash P (Str.ofString "__static_attributes__"), key := Value.str (Str.ofString "__static_attributes__") 219, val := Value.ref 35 }, { hash := PyData.keyHash P (Str.ofString "__doc__"), key := Value.str (Str.ofString "__doc__") 220, val := Value.none }] 2 }),
 (37, { cls := Value.type "type", data := Data.cls { name := Str.ofString "NoValue", bases := [Value.ref 24], mro := [Value.ref 37, Value.ref 24, Value.type "ValueError", Value.type "Exception", Value.type "BaseException", Value.type "object"], ns := 36, qualname := Str.ofString "NoValue" }, slots := #[some (Value.ref 28), none, some (Value.str (Str.ofString "NoValue") 207), some (Value.str (Str.ofString "NoValue") 215), some (Value.builtin "ValueError.__new__"), some (Value.bool true)] }),
 (47, { cls := Value.type "tuple", data := Data.seq #[] }),
 (48, { cls := Value.type "dict", data := Data.dict #[{ hash := PyData.keyHash P (Str.ofString "__module__"), key := Value.str (Str.ofString "__module__") 230, val := Value.str (Str.ofString "somenumber.errors") 187 }, { hash := PyData.keyHash P (Str.ofString "__firstlineno__"), key := Value.str (Str.ofString "__firstlineno__") 234, val := Value.int 6 233 }, { hash := PyData.keyHash P (Str.ofString "__static_attributes__"), key := Value.str (Str.ofString "__static_attributes__") 235, val := Value.ref 47 }, { hash := PyData.keyHash P (Str.ofString "__doc__"), key := Value.str (Str.ofString "__doc__") 236, val := Value.none }] 2 }),
 (49, { cls := Value.type "type", data := Data.cls { name := Str.ofString "NotPlain", bases := [Value.ref 24], mro := [Value.ref 49, Value.ref 24, Value.type "ValueError", Value.type "Exception", Value.type "BaseException", Value.type "object"], ns := 48, qualname := Str.ofString "NotPlain" }, slots := #[some (Value.ref 40), none, some (Value.str (Str.ofString "NotPlain") 223), some (Value.str (Str.ofString "NotPlain") 231), some (Value.builtin "ValueError.__new__"), some (Value.bool true)] }),
 (59, { cls := Value.type "tuple", data := Data.seq #[] }),
 (60, { cls := Value.type "dict", data := Data.dict #[{ hash := PyData.keyHash P (Str.ofString "__module__"), key := Value.str (Str.ofString "__module__") 246, val := Value.str (Str.ofString "somenumber.errors") 187 }, { hash := PyData.keyHash P (Str.ofString "__firstlineno__"), key := Value.str (Str.ofString "__firstlineno__") 250, val := Value.int 8 249 }, { hash := PyData.keyHash P (Str.ofString "__static_attributes__"), key := Value.str (Str.ofString "__static_attributes__") 251, val := Value.ref 59 }, { hash := PyData.keyHash P (Str.ofString "__doc__"), key := Value.str (Str.ofString "__doc__") 252, val := Value.none }] 2 }),
 (61, { cls := Value.type "type", data := Data.cls { name := Str.ofString "NoNote", bases := [Value.ref 24], mro := [Value.ref 61, Value.ref 24, Value.type "ValueError", Value.type "Exception", Value.type "BaseException", Value.type "object"], ns := 60, qualname := Str.ofString "NoNote" }, slots := #[some (Value.ref 52), none, some (Value.str (Str.ofString "NoNote") 239), some (Value.str (Str.ofString "NoNote") 247), some (Value.builtin "ValueError.__new__"), some (Value.bool true)] })]
theorem xc (P : Params) : XC (kf P) 24 ∧ XC (kf P) 37 ∧ XC (kf P) 49 ∧ XC (kf P) 61 :=
  ⟨⟨by kernel_rfl, by kernel_rfl, by kernel_rfl, by kernel_rfl, by kernel_rfl, by kernel_rfl, by kernel_rfl, by kernel_rfl, by kernel_rfl⟩,
   ⟨by kernel_rfl, by kernel_rfl, by kernel_rfl, by kernel_rfl, by kernel_rfl, by kernel_rfl, by kernel_rfl, by kernel_rfl, by kernel_rfl⟩,
   ⟨by kernel_rfl, by kernel_rfl, by kernel_rfl, by kernel_rfl, by kernel_rfl, by kernel_rfl, by kernel_rfl, by kernel_rfl, by kernel_rfl⟩,
   ⟨by kernel_rfl, by kernel_rfl, by kernel_rfl, by kernel_rfl, by kernel_rfl, by kernel_rfl, by kernel_rfl, by kernel_rfl, by kernel_rfl⟩⟩
theorem ns24 (P : Params) : nsIn (kf P) mainGlobals "SomeError" = some (some (.ref 24)) ∧ nsIn (kf P) mainGlobals "NoValue" = some (some (.ref 37)) ∧ nsIn (kf P) mainGlobals "NotPlain" = some (some (.ref 49)) ∧ nsIn (kf P) mainGlobals "NoNote" = some (some (.ref 61)) :=
  ⟨by kernel_rfl, by kernel_rfl, by kernel_rfl, by kernel_rfl⟩
theorem c_MOST_WITHIN {B : Bs} (X : (kf B.w.params).In B.hB) : ∃ v, B.mg "MOST_WITHIN" = some v ∧ Im B.hB v (.int 40) := ⟨.int 40 257, mgOf X B.g (by kernel_rfl), .int _ _⟩
theorem c_MOST_FIGURES {B : Bs} (X : (kf B.w.params).In B.hB) : ∃ v, B.mg "MOST_FIGURES" = some v ∧ Im B.hB v (.int 60) := ⟨.int 60 259, mgOf X B.g (by kernel_rfl), .int _ _⟩
theorem c_MOST_LETTERS {B : Bs} (X : (kf B.w.params).In B.hB) : ∃ v, B.mg "MOST_LETTERS" = some v ∧ Im B.hB v (.int 8) := ⟨.int 8 261, mgOf X B.g (by kernel_rfl), .int _ _⟩
theorem c_FIGURES {B : Bs} (X : (kf B.w.params).In B.hB) : ∃ v, B.mg "FIGURES" = some v ∧ Im B.hB v (.str "0123456789") := ⟨.str "0123456789" 263, mgOf X B.g (by kernel_rfl), .str _ _⟩
theorem c_LETTERS {B : Bs} (X : (kf B.w.params).In B.hB) : ∃ v, B.mg "LETTERS" = some v ∧ Im B.hB v (.str "abcdefghijklmnopqrstuvwxyz") := ⟨.str "abcdefghijklmnopqrstuvwxyz" 265, mgOf X B.g (by kernel_rfl), .str _ _⟩
theorem xn61 (P : Params) : XNot (kf P) 61 37 = true ∧ XNot (kf P) 61 49 = true ∧ mroIn (kf P) 61 (.ref 24) = some true := ⟨by kernel_rfl, by kernel_rfl, by kernel_rfl⟩
end Mine
end

section
open PySem PySem.W PyProof.Rows PySem.Calls PyProof
set_option Elab.async false
set_option maxHeartbeats 800000
set_option maxRecDepth 100000
set_option linter.unusedVariables false
namespace Mine
noncomputable abbrev pw := PySem.Challenge.pw_uf010003_10
structure Cx (B : Bs) : Prop where
  quiet : B.quiet = true
  kin : (kf B.w.params).In B.hB
  f_sum_words : FnAt B "sum_words" ["one"] (bodyOf pw 11) (scopeOf pw 11)
  f_words_of : FnAt B "words_of" ["statement"] (bodyOf pw 12) (scopeOf pw 12)
  f_written : FnAt B "written" ["statement"] (bodyOf pw 13) (scopeOf pw 13)
  f_word_at : FnAt B "word_at" ["words", "at"] (bodyOf pw 14) (scopeOf pw 14)
  f_number_at : FnAt B "number_at" ["words", "at"] (bodyOf pw 15) (scopeOf pw 15)
  f_name_at : FnAt B "name_at" ["words", "at"] (bodyOf pw 16) (scopeOf pw 16)
  f_sum_at : FnAt B "sum_at" ["words", "at"] (bodyOf pw 17) (scopeOf pw 17)
  f_parts_at : FnAt B "parts_at" ["words", "at", "deep"] (bodyOf pw 18) (scopeOf pw 18)
  f_statement_at : FnAt B "statement_at" ["words", "at", "deep"] (bodyOf pw 19) (scopeOf pw 19)
  f_read : FnAt B "read" ["text"] (bodyOf pw 20) (scopeOf pw 20)
  f_cell_at : FnAt B "_law_cell_at" ["_law_script", "_law_k"] (bodyOf pw 22) (scopeOf pw 22)
  f_whole : FnAt B "_law_whole" ["_law_got"] (bodyOf pw 23) (scopeOf pw 23)
  f_names_by : FnAt B "_law_names_by" ["_law_cell"] (bodyOf pw 24) (scopeOf pw 24)
  f_sum_by : FnAt B "_law_sum_by" ["_law_cell", "_law_names", "_law_wide"] (bodyOf pw 25) (scopeOf pw 25)
  f_end_by : FnAt B "_law_end_by" ["_law_cell", "_law_names", "_law_wide", "_law_most"] (bodyOf pw 26) (scopeOf pw 26)
  f_plain_by : FnAt B "_law_plain_by" ["_law_script", "_law_first", "_law_count", "_law_names", "_law_wide", "_law_most"] (bodyOf pw 27) (scopeOf pw 27)
  f_word_of : FnAt B "_law_word_of" ["_law_e"] (bodyOf pw 28) (scopeOf pw 28)
  f_big_by : FnAt B "_law_big_by" ["_law_cell"] (bodyOf pw 29) (scopeOf pw 29)
  f_alike : FnAt B "_law_alike" ["_law_got", "_law_due"] (bodyOf pw 30) (scopeOf pw 30)
  f_bound_by : FnAt B "_law_bound_by" ["_law_cell", "_law_statement", "_law_names"] (bodyOf pw 31) (scopeOf pw 31)
  f_lsum_words : FnAt B "_law_sum_words" ["_law_one"] (bodyOf pw 32) (scopeOf pw 32)
  f_words : FnAt B "_law_words" ["_law_statement"] (bodyOf pw 33) (scopeOf pw 33)
  f_within : FnAt B "_law_within" ["_law_statement"] (bodyOf pw 34) (scopeOf pw 34)
  f_number : FnAt B "_law_number" ["_law_word"] (bodyOf pw 35) (scopeOf pw 35)
  f_is_name : FnAt B "_law_is_name" ["_law_word"] (bodyOf pw 36) (scopeOf pw 36)
  f_sum_along : FnAt B "_law_sum_along" ["_law_words_here"] (bodyOf pw 37) (scopeOf pw 37)
  f_parts_along : FnAt B "_law_parts_along" ["_law_words_here", "_law_within_here"] (bodyOf pw 38) (scopeOf pw 38)
  f_along : FnAt B "_law_along" ["_law_words_here", "_law_within_here"] (bodyOf pw 39) (scopeOf pw 39)
  f_changed : FnAt B "_law_changed" ["_law_words_here", "_law_cell"] (bodyOf pw 40) (scopeOf pw 40)
  f_lread : FnAt B "_law_read" ["_law_text"] (bodyOf pw 41) (scopeOf pw 41)
  f_is_due : FnAt B "_law_is_due" ["_law_text"] (bodyOf pw 42) (scopeOf pw 42)
  f_law : FnAt B "law" ["_law_script"] (bodyOf pw 43) (scopeOf pw 43)
  o_SomeError : ∃ C, Own B "SomeError" C
  o_NoValue : ∃ C, Own B "NoValue" C
  o_NotPlain : ∃ C, Own B "NotPlain" C
  o_NoNote : ∃ C, Own B "NoNote" C
  b_ValueError : B.mg "ValueError" = none
  b_bool : B.mg "bool" = none
  b_int : B.mg "int" = none
  b_isinstance : B.mg "isinstance" = none
  b_len : B.mg "len" = none
  b_list : B.mg "list" = none
  b_max : B.mg "max" = none
  b_range : B.mg "range" = none
  b_sorted : B.mg "sorted" = none
  b_str : B.mg "str" = none
  b_tuple : B.mg "tuple" = none
noncomputable def F_sum_words : Fi := ⟨scopeOf pw 11, [("one", .loc), ("words", .loc), ("name", .loc), ("part", .loc)], 4, by decide +kernel⟩
noncomputable def F_words_of : Fi := ⟨scopeOf pw 12, [("statement", .loc), ("kind", .loc), ("words", .loc), ("part", .loc)], 4, by decide +kernel⟩
noncomputable def F_written : Fi := ⟨scopeOf pw 13, [("statement", .loc)], 1, by decide +kernel⟩
noncomputable def F_word_at : Fi := ⟨scopeOf pw 14, [("words", .loc), ("at", .loc)], 2, by decide +kernel⟩
noncomputable def F_number_at : Fi := ⟨scopeOf pw 15, [("words", .loc), ("at", .loc), ("word", .loc), ("figures", .loc), ("sign", .loc)], 5, by decide +kernel⟩
noncomputable def F_name_at : Fi := ⟨scopeOf pw 16, [("words", .loc), ("at", .loc), ("word", .loc), ("sign", .loc)], 4, by decide +kernel⟩
noncomputable def F_sum_at : Fi := ⟨scopeOf pw 17, [("words", .loc), ("at", .loc), ("number", .loc), ("parts", .loc), ("part", .loc), ("name", .loc)], 6, by decide +kernel⟩
noncomputable def F_parts_at : Fi := ⟨scopeOf pw 18, [("words", .loc), ("at", .loc), ("deep", .loc), ("many", .loc), ("parts", .loc), ("part", .loc)], 6, by decide +kernel⟩
noncomputable def F_statement_at : Fi := ⟨scopeOf pw 19, [("words", .loc), ("at", .loc), ("deep", .loc), ("kind", .loc), ("one", .loc), ("number", .loc), ("parts", .loc), ("name", .loc)], 8, by decide +kernel⟩
noncomputable def F_read : Fi := ⟨scopeOf pw 20, [("text", .loc), ("words", .loc), ("found", .loc), ("at", .loc)], 4, by decide +kernel⟩
noncomputable def F_cell_at : Fi := ⟨scopeOf pw 22, [("_law_script", .loc), ("_law_k", .loc)], 2, by decide +kernel⟩
noncomputable def F_whole : Fi := ⟨scopeOf pw 23, [("_law_got", .loc)], 1, by decide +kernel⟩
noncomputable def F_names_by : Fi := ⟨scopeOf pw 24, [("_law_cell", .cel), ("_law_letters", .cel), ("_law_size", .loc), ("_law_word", .cel), ("_law_number_here", .loc), ("_law_k", .loc), ("_law_usual", .cel), ("_law_spot", .cel)], 8, by decide +kernel⟩
noncomputable def F_sum_by : Fi := ⟨scopeOf pw 25, [("_law_cell", .loc), ("_law_names", .loc), ("_law_wide", .loc), ("_law_number_here", .loc), ("_law_parts", .loc), ("_law_name", .loc), ("_law_by", .loc)], 7, by decide +kernel⟩
noncomputable def F_end_by : Fi := ⟨scopeOf pw 26, [("_law_cell", .loc), ("_law_names", .loc), ("_law_wide", .loc), ("_law_most", .loc), ("_law_one", .loc)], 5, by decide +kernel⟩
noncomputable def F_plain_by : Fi := ⟨scopeOf pw 27, [("_law_script", .loc), ("_law_first", .loc), ("_law_count", .loc), ("_law_names", .loc), ("_law_wide", .loc), ("_law_most", .loc), ("_law_begin", .loc), ("_law_made_of", .loc), ("_law_k", .loc), ("_law_cell", .loc), ("_law_end", .loc), ("_law_way", .loc)], 12, by decide +kernel⟩
noncomputable def F_word_of : Fi := ⟨scopeOf pw 28, [("_law_e", .loc), ("_law_words_here", .loc)], 2, by decide +kernel⟩
noncomputable def F_big_by : Fi := ⟨scopeOf pw 29, [("_law_cell", .loc), ("_law_number_here", .loc), ("_law_mixed", .loc), ("_law_k", .loc)], 4, by decide +kernel⟩
noncomputable def F_alike : Fi := ⟨scopeOf pw 30, [("_law_got", .loc), ("_law_due", .loc), ("_law_k", .loc)], 3, by decide +kernel⟩
noncomputable def F_bound_by : Fi := ⟨scopeOf pw 31, [("_law_cell", .loc), ("_law_statement", .loc), ("_law_names", .loc), ("_law_inner", .loc), ("_law_way", .loc)], 5, by decide +kernel⟩
noncomputable def F_lsum_words : Fi := ⟨scopeOf pw 32, [("_law_one", .loc), ("_law_words_here", .loc), ("_law_pair", .loc)], 3, by decide +kernel⟩
noncomputable def F_words : Fi := ⟨scopeOf pw 33, [("_law_statement", .loc), ("_law_kind", .loc), ("_law_words_here", .loc), ("_law_part", .loc)], 4, by decide +kernel⟩
noncomputable def F_within : Fi := ⟨scopeOf pw 34, [("_law_statement", .loc), ("_law_kind", .loc)], 2, by decide +kernel⟩
noncomputable def F_number : Fi := ⟨scopeOf pw 35, [("_law_word", .loc), ("_law_plain", .loc), ("_law_sign", .loc)], 3, by decide +kernel⟩
noncomputable def F_is_name : Fi := ⟨scopeOf pw 36, [("_law_word", .loc), ("_law_sign", .loc)], 2, by decide +kernel⟩
noncomputable def F_sum_along : Fi := ⟨scopeOf pw 37, [("_law_words_here", .loc), ("_law_parts", .loc), ("_law_spot", .loc), ("_law_by", .loc), ("_law_name", .loc)], 5, by decide +kernel⟩
noncomputable def F_parts_along : Fi := ⟨scopeOf pw 38, [("_law_words_here", .loc), ("_law_within_here", .loc), ("_law_count", .loc), ("_law_rest_of", .loc), ("_law_parts", .loc), ("_law_got", .loc)], 6, by decide +kernel⟩
noncomputable def F_along : Fi := ⟨scopeOf pw 39, [("_law_words_here", .loc), ("_law_within_here", .loc), ("_law_kind", .loc), ("_law_head", .loc), ("_law_got", .loc)], 5, by decide +kernel⟩
noncomputable def F_changed : Fi := ⟨scopeOf pw 40, [("_law_words_here", .loc), ("_law_cell", .loc), ("_law_others", .loc), ("_law_spot", .loc), ("_law_other", .loc), ("_law_word", .loc), ("_law_cut", .loc)], 7, by decide +kernel⟩
noncomputable def F_lread : Fi := ⟨scopeOf pw 41, [("_law_text", .loc), ("_law_e", .loc)], 2, by decide +kernel⟩
noncomputable def F_is_due : Fi := ⟨scopeOf pw 42, [("_law_text", .loc), ("_law_got", .loc)], 2, by decide +kernel⟩
noncomputable def F_law : Fi := ⟨scopeOf pw 43, [("_law_script", .loc), ("_law_names", .loc), ("_law_most", .loc), ("_law_statement", .loc), ("_law_great", .loc), ("_law_k", .loc), ("_law_inner", .loc), ("_law_far", .loc), ("_law_wraps", .loc), ("_law_words_here", .loc), ("_law_got", .loc), ("_law_note", .loc), ("_law_tail", .loc), ("_law_cell", .loc)], 14, by decide +kernel⟩
noncomputable abbrev plainBody : List Stmt := bodyOf pw 27
noncomputable def forBody (l : List Stmt) (i : Nat) : List Stmt :=
  match l[i]? with
  | some (.For _ _ b _ _) => b
  | _ => []
noncomputable abbrev stepBody : List Stmt := (forBody plainBody 4).drop 3

end Mine
end

section
open PySem PySem.W PyProof.Rows PySem.Calls PyProof
set_option Elab.async false
set_option maxHeartbeats 800000
set_option maxRecDepth 100000
set_option linter.unusedVariables false
namespace Mine
variable {B : Bs}

theorem cell_at_spec (C : Cx B) (n : Nat) {is : List Int} {k : Int} (h0 : 0 ≤ k) (hk : k < 2 ^ 62) (hl : is.length < 64) :
    Spec B "_law_cell_at" NoX (n + 1) [.ct (.lst (is.map .int)), .im (.int k)] (Is (.im (.int (cellAt is k)))) := by
  refine Spec.of_body (F := F_cell_at) C.f_cell_at rfl (by decide) rfl ?_
  have hq := C.quiet
  refine SWs.consK (SW.ife (TW.cmpK (EW.name 1 rfl rfl (EW.bcallK rfl C.b_len bb_len trivial (LW.consK (EW.name 0 rfl rfl (LW.nil ⟨_, BuiS.lenL ?_, ⟨_, CmpS.ltI _ _, ?_⟩⟩)))))))
  · rw [List.length_map]; (first | lia | omega)
  try dsimp only
  split
  · rename_i h
    rw [List.length_map, decide_eq_true_eq] at h
    refine SWs.consK (SW.retK (EW.subK (EW.name 0 rfl rfl (EW.name 1 rfl rfl ⟨_, SubS.list (d := .int (cellAt is k)) h0 (by (first | lia | omega)) ?_, rfl⟩))))
    rw [List.getElem?_map, List.getElem?_eq_getElem (by (first | lia | omega))]
    unfold cellAt
    rw [if_pos h, List.getD_eq_getElem?_getD, List.getElem?_eq_getElem (by (first | lia | omega))]; rfl
  · rename_i h
    rw [List.length_map, decide_eq_true_eq] at h
    refine SWs.nil (SWs.consK (SW.retK (EW.cint ?_)))
    show _ = _
    unfold cellAt
    rw [if_neg h]

theorem whole_spec (C : Cx B) (n : Nat) (i : Int) : Spec B "_law_whole" NoX (n + 1) [.im (.int i)] (Is (.im (.bool true))) := by
  refine Spec.of_body (F := F_whole) C.f_whole rfl (by decide) rfl ?_
  have hq := C.quiet
  exact SWs.consK (SW.retK (EW.and2 (EW.isiK rfl C.b_isinstance rfl C.b_int bb_int (EW.name 0 rfl rfl ⟨_, (IsiS.int_ i).1, ⟨_, TruS.bool _, ifT (EW.unK (EW.isiK rfl C.b_isinstance rfl C.b_bool bb_bool (EW.name 0 rfl rfl ⟨_, (IsiS.int_ i).2.1, ⟨_, UnS.not (TruS.bool _), rfl⟩⟩)))⟩⟩))))

noncomputable def BgIs (q : Rs) : Prop := ∃ i : Int, i.natAbs < 10 ^ 60 ∧ q = .im (.int i)
noncomputable def BgI (c : Int) (rest : List D) (ρ' : List (Option Sl)) : Prop := ∃ (t : Nat) (num mix : Int) (x : Option Sl), rest.length + t ≤ 60 ∧ 0 ≤ num ∧ num < 10 ^ t ∧ ρ' = [some (.im (.int c)), some (.im (.int num)), some (.im (.int mix)), x]
theorem big_by_spec (C : Cx B) (n : Nat) {c : Int} : Spec B "_law_big_by" NoX (n + 1) [.im (.int c)] BgIs := by
  refine Spec.of_body (F := F_big_by) C.f_big_by rfl (by decide) rfl ?_
  have hq := C.quiet
  -- if _law_cell % 4 > 0:
  refine SWs.consK (SW.ife (TW.cmpK (EW.binK (EW.name 0 rfl rfl (EW.cint (⟨_, BinS.modP (by decide), EW.cint (⟨_, CmpS.gtI _ _, ?_⟩)⟩))))))
  try dsimp only
  split
  · rename_i h
    -- return _law_cell // 4 % 19 - 9
    refine SWs.consK (SW.retK (EW.binK (EW.binK (EW.binK (EW.name 0 rfl rfl (EW.cint (⟨_, BinS.fdivP (by decide) (by decide), EW.cint (⟨_, BinS.modP (by decide), EW.cint (⟨_, BinS.sub _ _, ?_⟩)⟩)⟩)))))))
    refine ⟨_, ?_, rfl⟩
    have : (10 : Nat) ^ 60 = 1000000000000000000000000000000000000000000000000000000000000 := by decide
    (first | lia | omega)
  refine SWs.nil ?_
  -- _law_number = 0
  refine SWs.consK (SW.assignK 1 rfl (by decide) (by decide) (EW.cint (⟨_, rfl, ?_⟩)))
  -- _law_mixed = _law_cell
  refine SWs.consK (SW.assignK 2 rfl (by decide) (by decide) (EW.name 0 rfl rfl (⟨_, rfl, ?_⟩)))
  -- for _law_k in range(1 + _law_cell // 8 % 60):
  refine SWs.consK (SW.forK (EW.bcallK rfl C.b_range bb_range trivial (LW.consK (EW.binK (EW.cint (EW.binK (EW.binK (EW.name 0 rfl rfl (EW.cint (⟨_, BinS.fdivP (by decide) (by decide), EW.cint (⟨_, BinS.modP (by decide), ⟨_, BinS.add _ _, LW.nil (⟨_, BuiS.range1 _, ⟨_, IterS.rng (by decide) (by decide) (by (first | lia | omega)) (by (first | lia | omega)),
    BgI c, ?_, ?_, ?_⟩⟩)⟩⟩)⟩))))))))))
  · exact ⟨0, 0, c, none, by rw [intsFrom_length]; (first | lia | omega), by decide, by decide, rfl⟩
  · rintro d rest ρ' ⟨t, num, mix, x, h1, h2, h3, rfl⟩
    rw [List.length_cons] at h1
    refine AsW.name 3 rfl (by decide) (by decide) ?_
    -- _law_mixed = (_law_mixed * 48271 + 11) % 2147483647
    refine SWs.consK (SW.assignK 2 rfl (by decide) (by decide) (EW.binK (EW.binK (EW.binK (EW.name 2 rfl rfl (EW.cint (⟨_, BinS.mul (IntMulOk.of_right (by decide)), EW.cint (⟨_, BinS.add _ _, EW.cint (⟨_, BinS.modP (by decide), ⟨_, rfl, ?_⟩⟩)⟩)⟩)))))))
    -- _law_number = _law_number * 10 + _law_mixed // 7 % 10
    refine SWs.consK (SW.assignK 1 rfl (by decide) (by decide) (EW.binK (EW.binK (EW.name 1 rfl rfl (EW.cint (⟨_, BinS.mul (IntMulOk.of_right (by decide)), EW.binK (EW.binK (EW.name 2 rfl rfl (EW.cint (⟨_, BinS.fdivP (by decide) (by decide), EW.cint (⟨_, BinS.modP (by decide), ⟨_, BinS.add _ _, ⟨_, rfl, ?_⟩⟩⟩)⟩))))⟩))))))
    refine SWs.nil ⟨t + 1, num * 10 + (mix * 48271 + 11) % 2147483647 / 7 % 10, (mix * 48271 + 11) % 2147483647, some (.im d), by (first | lia | omega), ?_, ?_, rfl⟩
    · (first | lia | omega)
    · rw [Int.pow_succ]; (first | lia | omega)
  · rintro ρ' ⟨t, num, mix, x, h1, h2, h3, rfl⟩
    have hp : (10 : Int) ^ t ≤ 10 ^ 60 := by
      have : (10 : Nat) ^ t ≤ 10 ^ 60 := Nat.pow_le_pow_right (by decide) (by simp at h1; (first | lia | omega))
      exact_mod_cast this
    have hb : num.natAbs < 10 ^ 60 := by
      have h4 : num < 10 ^ 60 := Int.lt_of_lt_of_le h3 hp
      have h5 : ((num.natAbs : Nat) : Int) = num := Int.natAbs_of_nonneg h2
      have h6 : ((num.natAbs : Nat) : Int) < ((10 ^ 60 : Nat) : Int) := by rw [h5]; exact_mod_cast h4
      exact_mod_cast h6
    refine SWs.nil ?_
    -- return [1, -1][_law_cell // 4 % 2] * _law_number
    refine SWs.consK (SW.retK (EW.binK (EW.subK (EW.listK (LW.consK (EW.cint (LW.consK (EW.unK (EW.cint (⟨_, UnS.neg _, LW.nil (⟨_, .cons (.cons .nil), (show 2 ≤ sizeLine by decide), EW.binK (EW.binK (EW.name 0 rfl rfl (EW.cint (⟨_, BinS.fdivP (by decide) (by decide), EW.cint (⟨_, BinS.modP (by decide), ?_⟩)⟩))))⟩)⟩))))))))))
    have hc : c / 4 % 2 = 0 ∨ c / 4 % 2 = 1 := by (first | lia | omega)
    rcases hc with hc | hc <;> rw [hc]
    · exact ⟨_, SubS.list (d := .int 1) (by decide) (by decide) rfl, EW.name 1 rfl rfl ⟨_, BinS.mul (IntMulOk.of_left (by decide)), _, by simpa using hb, rfl⟩⟩
    · exact ⟨_, SubS.list (d := .int (-1)) (by decide) (by decide) rfl, EW.name 1 rfl rfl ⟨_, BinS.mul (IntMulOk.of_left (by decide)), _, by simpa using hb, rfl⟩⟩


theorem alike_bool (C : Cx B) (n : Nat) : Spec B "_law_alike" NoX (n + 1) [.im (.bool true), .im (.bool true)] (Is (.im (.bool true))) := by
  refine Spec.of_body (F := F_alike) C.f_alike rfl (by decide) rfl ?_
  have hq := C.quiet
  refine SWs.consK (SW.ife (TW.cmpK (EW.name 1 rfl rfl (EW.cnone ⟨_, CmpS.isNone _, ifF (SWs.nil ?_)⟩))))
  refine SWs.consK (SW.ife (TW.cmpK (EW.name 1 rfl rfl (EW.cbool ⟨_, CmpS.isTrue _, ifT ?_⟩))))
  exact SWs.consK (SW.retK (EW.cmpK (EW.name 0 rfl rfl (EW.cbool ⟨_, CmpS.isTrue _, rfl⟩))))
theorem alike_str (C : Cx B) (n : Nat) {x : Str} : Spec B "_law_alike" NoX (n + 1) [.im (.str x), .im (.str x)] (Is (.im (.bool true))) := by
  refine Spec.of_body (F := F_alike) C.f_alike rfl (by decide) rfl ?_
  have hq := C.quiet
  refine SWs.consK (SW.ife (TW.cmpK (EW.name 1 rfl rfl (EW.cnone ⟨_, CmpS.isNone _, ifF (SWs.nil ?_)⟩))))
  refine SWs.consK (SW.ife (TW.cmpK (EW.name 1 rfl rfl (EW.cbool ⟨_, CmpS.isTrue _, ifF (SWs.nil ?_)⟩))))
  refine SWs.consK (SW.ife (TW.valK (EW.isiK rfl C.b_isinstance rfl C.b_str bb_str (EW.name 1 rfl rfl ⟨_, (IsiS.str_ _).2.2.1, ⟨_, TruS.bool _, ifT ?_⟩⟩))))
  exact SWs.consK (SW.retK (EW.and2 (EW.isiK rfl C.b_isinstance rfl C.b_str bb_str (EW.name 0 rfl rfl ⟨_, (IsiS.str_ _).2.2.1, ⟨_, TruS.bool _, ifT (EW.cmpK (EW.name 0 rfl rfl (EW.name 1 rfl rfl ⟨_, CmpS.eqS _ _, by simp; rfl⟩)))⟩⟩))))
theorem alike_int (C : Cx B) (n : Nat) {x : Int} : Spec B "_law_alike" NoX (n + 2) [.im (.int x), .im (.int x)] (Is (.im (.bool true))) := by
  refine Spec.of_body (F := F_alike) C.f_alike rfl (by decide) rfl ?_
  have hq := C.quiet
  refine SWs.consK (SW.ife (TW.cmpK (EW.name 1 rfl rfl (EW.cnone ⟨_, CmpS.isNone _, ifF (SWs.nil ?_)⟩))))
  refine SWs.consK (SW.ife (TW.cmpK (EW.name 1 rfl rfl (EW.cbool ⟨_, CmpS.isTrue _, ifF (SWs.nil ?_)⟩))))
  refine SWs.consK (SW.ife (TW.valK (EW.isiK rfl C.b_isinstance rfl C.b_str bb_str (EW.name 1 rfl rfl ⟨_, (IsiS.int_ _).2.2.1, ⟨_, TruS.bool _, ifF (SWs.nil ?_)⟩⟩))))
  refine SWs.consK (SW.ife (TW.valK (EW.isiK rfl C.b_isinstance rfl C.b_int bb_int (EW.name 1 rfl rfl ⟨_, (IsiS.int_ _).1, ⟨_, TruS.bool _, ifT ?_⟩⟩))))
  refine SWs.consK (SW.retK (EW.and2 (EW.callK rfl (LW.consK (EW.name 0 rfl rfl (LW.nil ?_))) C.f_whole.some)))
  refine Spec.eq (whole_spec C n _) ?_ (Nat.le_refl _)
  exact ⟨_, TruS.bool _, ifT (EW.cmpK (EW.name 0 rfl rfl (EW.name 1 rfl rfl ⟨_, CmpS.eqI _ _, by simp; rfl⟩)))⟩
noncomputable def AkI (l : List D) (rest : List D) (ρ' : List (Option Sl)) : Prop := ∃ (j : Nat) (x : Option Sl), j ≤ l.length ∧ rest = intsFrom j (l.length - j) ∧ ρ' = [some (.im (.tup l)), some (.im (.tup l)), x]
theorem alike_tup (C : Cx B) (n : Nat) {l : List D} (hl : l.length < 2 ^ 60) (ih : ∀ d ∈ l, Spec B "_law_alike" NoX n [.im d, .im d] (Is (.im (.bool true)))) : Spec B "_law_alike" NoX (n + 1) [.im (.tup l), .im (.tup l)] (Is (.im (.bool true))) := by
  refine Spec.of_body (F := F_alike) C.f_alike rfl (by decide) rfl ?_
  have hq := C.quiet
  refine SWs.consK (SW.ife (TW.cmpK (EW.name 1 rfl rfl (EW.cnone ⟨_, CmpS.isNone _, ifF (SWs.nil ?_)⟩))))
  refine SWs.consK (SW.ife (TW.cmpK (EW.name 1 rfl rfl (EW.cbool ⟨_, CmpS.isTrue _, ifF (SWs.nil ?_)⟩))))
  refine SWs.consK (SW.ife (TW.valK (EW.isiK rfl C.b_isinstance rfl C.b_str bb_str (EW.name 1 rfl rfl ⟨_, (IsiS.tup_ _).2.2.1, ⟨_, TruS.bool _, ifF (SWs.nil ?_)⟩⟩))))
  refine SWs.consK (SW.ife (TW.valK (EW.isiK rfl C.b_isinstance rfl C.b_int bb_int (EW.name 1 rfl rfl ⟨_, (IsiS.tup_ _).1, ⟨_, TruS.bool _, ifF (SWs.nil ?_)⟩⟩))))
  refine SWs.consK (SW.ife (TW.bool (AW.andCons (TW.valK (EW.isiK rfl C.b_isinstance rfl C.b_tuple bb_tuple (EW.name 1 rfl rfl ⟨_, (IsiS.tup_ _).2.2.2.1, ⟨_, TruS.bool _, ifT (AW.andCons (TW.not (TW.valK (EW.isiK rfl C.b_isinstance rfl C.b_tuple bb_tuple (EW.name 0 rfl rfl ⟨_, (IsiS.tup_ _).2.2.2.1, ⟨_, TruS.bool _, ifF (ifF (SWs.nil ?_))⟩⟩)))))⟩⟩))))))
  refine SWs.consK (SW.ife (TW.bool (AW.andCons (TW.valK (EW.isiK rfl C.b_isinstance rfl C.b_list bb_list (EW.name 1 rfl rfl ⟨_, (IsiS.tup_ _).2.2.2.2, ⟨_, TruS.bool _, ifF (ifF (SWs.nil ?_))⟩⟩))))))
  refine SWs.consK (SW.ife (TW.cmpK (EW.bcallK rfl C.b_len bb_len trivial (LW.consK (EW.name 0 rfl rfl (LW.nil ⟨_, BuiS.lenT (by (first | lia | omega)), EW.bcallK rfl C.b_len bb_len trivial (LW.consK (EW.name 1 rfl rfl (LW.nil ⟨_, BuiS.lenT (by (first | lia | omega)), ⟨_, CmpS.neI _ _, ?_⟩⟩)))⟩))))))
  rw [show ((l.length : Int) != (l.length : Int)) = false by simp]
  refine ifF (SWs.nil ?_)
  refine SWs.consK (SW.forK (EW.bcallK rfl C.b_range bb_range trivial (LW.consK (EW.bcallK rfl C.b_len bb_len trivial (LW.consK (EW.name 1 rfl rfl (LW.nil (⟨_, BuiS.lenT (by (first | lia | omega)), LW.nil (⟨_, BuiS.range1 _, ⟨_, IterS.rng (by decide) (by decide) (by (first | lia | omega)) (by (first | lia | omega)),
    AkI l, ?_, ?_, ?_⟩⟩)⟩))))))))
  · exact ⟨0, none, by (first | lia | omega), by simp, rfl⟩
  · rintro d rest ρ' ⟨j, x, h1, h2, rfl⟩
    have hj : j < l.length := by
      cases hq : l.length - j with
      | zero => rw [hq] at h2; cases h2
      | succ q => (first | lia | omega)
    obtain ⟨q, hq⟩ : ∃ q, l.length - j = q + 1 := ⟨l.length - j - 1, by (first | lia | omega)⟩
    rw [hq, intsFrom] at h2
    cases h2
    refine AsW.name 2 rfl (by decide) (by decide) ?_
    have hd : l[j]? = some l[j] := List.getElem?_eq_getElem hj
    refine SWs.consK (SW.ife (TW.not (TW.valK (EW.callK rfl (LW.consK (EW.subK (EW.name 0 rfl rfl (EW.name 2 rfl rfl (⟨_, SubS.tup (j := j) (by (first | lia | omega)) (by (first | lia | omega)) (seqIndex_pos (by (first | lia | omega)) (by (first | lia | omega))) hd, LW.consK (EW.subK (EW.name 1 rfl rfl (EW.name 2 rfl rfl (⟨_, SubS.tup (j := j) (by (first | lia | omega)) (by (first | lia | omega)) (seqIndex_pos (by (first | lia | omega)) (by (first | lia | omega))) hd, LW.nil ?_⟩))))⟩))))) C.f_alike.some))))
    refine Spec.eq (ih l[j] (List.getElem_mem hj)) ?_ (Nat.le_refl _)
    exact ⟨_, TruS.bool _, ifF (SWs.nil (SWs.nil ⟨j + 1, _, hj, by rw [show l.length - (j + 1) = q by (first | lia | omega)]; rfl, rfl⟩))⟩
  · rintro ρ' ⟨j, x, h1, h2, rfl⟩
    exact SWs.nil (SWs.consK (SW.retK (EW.cbool rfl)))
inductive Dg : Nat → D → Prop
  | tru {m} : Dg m (.bool true)
  | int {m i} : Dg m (.int i)
  | str {m x} : Dg m (.str x)
  | tup {m l} : l.length < 2 ^ 60 → (∀ d ∈ l, Dg m d) → Dg (m + 1) (.tup l)
theorem alike_spec (C : Cx B) {m : Nat} {d : D} (h : Dg m d) : ∀ n, Spec B "_law_alike" NoX (n + m + 2) [.im d, .im d] (Is (.im (.bool true))) := by
  induction h with
  | @tru m => intro n; exact alike_bool C (n + m + 1)
  | @int m i => intro n; exact alike_int C (n + m)
  | @str m i => intro n; exact alike_str C (n + m + 1)
  | @tup m l hl _ ih => intro n; exact alike_tup C (n + m + 2) hl fun d hd => ih d hd n


end Mine
end

section
open PySem PySem.W PyProof.Rows PySem.Calls PyProof
set_option Elab.async false
set_option maxHeartbeats 800000
set_option maxRecDepth 100000
set_option linter.unusedVariables false
namespace Mine
variable {B : Bs}
theorem ifFd {P Q : Prop} {c : Bool} (h : c = false) (x : Q) : if c = true then P else Q := by subst h; simpa using x
theorem ifTd {P Q : Prop} {c : Bool} (h : c = true) (x : P) : if c = true then P else Q := by subst h; simpa using x
theorem h64 {k : Nat} (h : k ≤ 64) : k ≤ sizeLine := Nat.le_trans h (by decide)
noncomputable def SbIs (c : Int) (names : List Str) (wide : Int) (q : Rs) : Prop := q = .im (sumD (sumK c names) (sumL wide c (srt names)))
noncomputable def SbI (c : Int) (names : List Str) (wide : Int) (rest : List D) (ρ' : List (Option Sl)) : Prop := ∃ (r : List Str) (num : Int) (ps : List (Str × Int)) (x y : Option Sl), rest = r.map .str ∧ ps ++ sumL wide num r = sumL wide c (srt names) ∧ sumN num r = sumN c (srt names) ∧ ps.length + r.length ≤ 64 ∧ ρ' = [some (.im (.int c)), some (.fz (.lst (names.map .str))), some (.im (.int wide)), some (.im (.int num)), some (.own (.lst (ps.map pD))), x, y]
theorem sum_by_spec (C : Cx B) (n : Nat) {c wide : Int} {names : List Str} (hw : 0 ≤ wide) (hl : names.length < 64) :
    Spec B "_law_sum_by" NoX (n + 1) [.im (.int c), .ct (.lst (names.map .str)), .im (.int wide)] (SbIs c names wide) := by
  refine Spec.of_body (F := F_sum_by) C.f_sum_by rfl (by decide) rfl ?_
  have hq := C.quiet
  refine SWs.consK (SW.assignK 3 rfl (by decide) (by decide) (EW.name 0 rfl rfl (⟨_, rfl, ?_⟩)))
  refine SWs.consK (SW.assignK 4 rfl (by decide) (by decide) (EW.listK (LW.nil (⟨_, .nil, (show 0 ≤ sizeLine by decide), ⟨_, rfl, ?_⟩⟩))))
  refine SWs.consK (SW.forK (EW.bcallK rfl C.b_sorted bb_sorted trivial (LW.consK (EW.name 1 rfl rfl (LW.nil (⟨_, BuiS.sorted hl, ⟨_, IterS.list (fun i q => by cases q),
    SbI c names wide, ?_, ?_, ?_⟩⟩))))))
  · exact ⟨srt names, c, [], none, none, rfl, rfl, rfl, by rw [(srt_perm names).length_eq]; simp; (clear hw; (first | lia | omega)), rfl⟩
  · rintro d rest ρ' ⟨r, num, ps, x, y, e1, e2, e3, e4, rfl⟩
    cases r with
    | nil => cases e1
    | cons nm r =>
      cases e1
      rw [List.length_cons] at e4
      refine AsW.name 5 rfl (by decide) (by decide) ?_
      refine SWs.consK (SW.assignK 3 rfl (by decide) (by decide) (EW.binK (EW.binK (EW.binK (EW.name 3 rfl rfl (EW.cint (⟨_, BinS.mul (IntMulOk.of_right (by decide)), EW.cint (⟨_, BinS.add _ _, EW.cint (⟨_, BinS.modP (by decide), ⟨_, rfl, ?_⟩⟩)⟩)⟩)))))))
      refine SWs.consK (SW.assignK 6 rfl (by decide) (by decide) (EW.binK (EW.binK (EW.binK (EW.name 3 rfl rfl (EW.cint (⟨_, BinS.fdivP (by decide) (by decide), EW.binK (EW.binK (EW.cint (EW.name 2 rfl rfl (⟨_, BinS.mul (IntMulOk.of_left (by decide)), EW.cint (⟨_, BinS.add _ _, ⟨_, BinS.modP (by (clear e4 e3 hl; (first | lia | omega))), EW.name 2 rfl rfl (⟨_, BinS.sub _ _, ⟨_, rfl, ?_⟩⟩)⟩⟩)⟩))))⟩)))))))
      refine SWs.consK (SW.ife (TW.cmpK (EW.name 6 rfl rfl (EW.cint (⟨_, CmpS.neI _ _, ?_⟩)))))
      show if (nxt num / 7 % (2 * wide + 1) - wide != 0) = true then _ else _
      try dsimp only
      split
      · rename_i h
        simp only [bne_iff_ne, ne_eq] at h
        refine SWs.consK (SW.appendK 4 rfl rfl (EW.tupleK (LW.consK (EW.name 5 rfl rfl (LW.consK (EW.name 6 rfl rfl (LW.nil (⟨_, .cons (.cons .nil), (show 2 ≤ sizeLine by decide), ⟨_, rfl, ?_, ?_⟩⟩))))))))
        · rw [List.length_map]; exact h64 (by (clear h e3 hl hw; (first | lia | omega)))
        refine SWs.nil (SWs.nil ⟨r, nxt num, ps ++ [(nm, nxt num / 7 % (2 * wide + 1) - wide)], some (.im (.str nm)), some (.im (.int (nxt num / 7 % (2 * wide + 1) - wide))), rfl, ?_, e3, by simp; (clear h e3 hl hw; (first | lia | omega)), ?_⟩)
        · rw [← e2, List.append_assoc]
          congr 1
          show _ = sumL wide num (nm :: r)
          rw [sumL, if_pos h]; rfl
        · rw [List.map_append]; rfl
      · rename_i h
        simp only [bne_iff_ne, ne_eq, Decidable.not_not] at h
        refine SWs.nil (SWs.nil ⟨r, nxt num, ps, some (.im (.str nm)), some (.im (.int (nxt num / 7 % (2 * wide + 1) - wide))), rfl, ?_, e3, by (clear h e3 hl hw; (first | lia | omega)), rfl⟩)
        rw [← e2]
        congr 1
        rw [sumL, if_neg (by simpa using h)]
  · rintro ρ' ⟨r, num, ps, x, y, e1, e2, e3, e4, rfl⟩
    have : r = [] := by cases r with | nil => rfl | cons p r => cases e1
    subst this
    simp only [sumL, List.append_nil] at e2
    simp only [sumN] at e3
    subst e2
    refine SWs.nil ?_
    refine SWs.consK (SW.assignK 3 rfl (by decide) (by decide) (EW.binK (EW.binK (EW.binK (EW.name 3 rfl rfl (EW.cint (⟨_, BinS.mul (IntMulOk.of_right (by decide)), EW.cint (⟨_, BinS.add _ _, EW.cint (⟨_, BinS.modP (by decide), ⟨_, rfl, ?_⟩⟩)⟩)⟩)))))))
    refine SWs.consK (SW.retK (EW.tupleK (LW.consK (EW.binK (EW.binK (EW.binK (EW.name 3 rfl rfl (EW.cint (⟨_, BinS.fdivP (by decide) (by decide), EW.cint (⟨_, BinS.modP (by decide), EW.cint (⟨_, BinS.sub _ _, LW.consK (EW.bcallK rfl C.b_tuple bb_tuple trivial (LW.consK (EW.name 4 rfl rfl (LW.nil (⟨_, BuiS.tupleL (h64 (by rw [List.length_map]; simp at e4; (clear e3 hl hw; (first | lia | omega)))), LW.nil (⟨_, .cons (.cons .nil), (show 2 ≤ sizeLine by decide), ?_⟩)⟩)))))⟩)⟩)⟩)))))))))
    show _ = _
    rw [sumK, ← e3]; rfl
theorem end_by_spec (C : Cx B) (n : Nat) {c wide most : Int} {names : List Str} (hw : 0 ≤ wide) (hm : 0 < most) (hl : names.length < 64) :
    Spec B "_law_end_by" NoX (n + 2) [.im (.int c), .ct (.lst (names.map .str)), .im (.int wide), .im (.int most)] (Is (.im (endSt c names wide most).d)) := by
  refine Spec.of_body (F := F_end_by) C.f_end_by rfl (by decide) rfl ?_
  have hq := C.quiet
  refine SWs.consK (SW.assignK 4 rfl (by decide) (by decide) (EW.callK rfl (LW.consK (EW.binK (EW.name 0 rfl rfl (EW.cint (⟨_, BinS.fdivP (by decide) (by decide), LW.consK (EW.name 1 rfl rfl (LW.consK (EW.name 2 rfl rfl (LW.nil ?_))))⟩))))) C.f_sum_by.some))
  refine Spec.eq (sum_by_spec C n hw hl) ?_ (Nat.le_refl _)
  refine ⟨_, rfl, ?_⟩
  refine SWs.consK (SW.ife (TW.cmpK (EW.binK (EW.name 0 rfl rfl (EW.cint (⟨_, BinS.modP (by decide), EW.cint (⟨_, CmpS.eqI _ _, ?_⟩)⟩))))))
  try dsimp only
  split
  · rename_i h
    refine SWs.consK (SW.retK (EW.tupleK (LW.consK (EW.cstr (LW.consK (EW.name 4 rfl rfl (LW.nil (⟨_, .cons (.cons .nil), (show 2 ≤ sizeLine by decide), ?_⟩))))))))
    show _ = _
    rw [endSt, if_pos (by simpa using h)]; rfl
  · rename_i h
    refine SWs.nil ?_
    refine SWs.consK (SW.ife (TW.cmpK (EW.binK (EW.name 0 rfl rfl (EW.cint (⟨_, BinS.modP (by decide), EW.cint (⟨_, CmpS.eqI _ _, ?_⟩)⟩))))))
    try dsimp only
    split
    · rename_i h2
      refine SWs.consK (SW.retK (EW.tupleK (LW.consK (EW.cstr (LW.consK (EW.binK (EW.cint (EW.binK (EW.binK (EW.name 0 rfl rfl (EW.cint (⟨_, BinS.fdivP (by decide) (by decide), EW.name 3 rfl rfl (⟨_, BinS.modP hm, ⟨_, BinS.add _ _, LW.consK (EW.name 4 rfl rfl (LW.nil (⟨_, .cons (.cons (.cons .nil)), (show 3 ≤ sizeLine by decide), ?_⟩)))⟩⟩)⟩))))))))))))
      show _ = _
      rw [endSt, if_neg (by simpa using h), if_pos (by simpa using h2)]; rfl
    · rename_i h2
      refine SWs.nil ?_
      refine SWs.consK (SW.retK (EW.tupleK (LW.consK (EW.cstr (LW.consK (EW.name 4 rfl rfl (LW.nil (⟨_, .cons (.cons .nil), (show 2 ≤ sizeLine by decide), ?_⟩))))))))
      show _ = _
      rw [endSt, if_neg (by simpa using h), if_neg (by simpa using h2)]; rfl
noncomputable def rP (is : List Int) (first count : Int) (sl : Sl) (wide most b : Int) (m : D) (x8 x9 x10 x11 : Option Sl) : List (Option Sl) :=
  [some (.fz (.lst (is.map .int))), some (.im (.int first)), some (.im (.int count)), some sl, some (.im (.int wide)), some (.im (.int most)), some (.im (.int b)), some (.im m), x8, x9, x10, x11]
theorem andor (c : Int) (h0 : 0 ≤ c) (h : c < 2) : ([D.str "and", D.str "or"] : List D)[c.toNat]? = some (.str (cw (decide (c = 0)))) := by
  have : c = 0 ∨ c = 1 := by (first | lia | omega)
  rcases this with rfl | rfl <;> rfl
theorem someall (c : Int) (h0 : 0 ≤ c) (h : c < 2) : ([D.str "some", D.str "all"] : List D)[c.toNat]? = some (.str (bw (decide (c = 0)))) := by
  have : c = 0 ∨ c = 1 := by (first | lia | omega)
  rcases this with rfl | rfl <;> rfl
theorem plain_step (C : Cx B) (n : Nat) {is : List Int} {first count wide most b : Int} {sl : Sl} {c : Int} {e m : St} {x8 : Option Sl} {Q : Fl → List (Option Sl) → Prop}
    (h : Q .next (rP is first count sl wide most b (stepSt c e m).d x8 (some (.im (.int c))) (some (.im e.d)) (some (.im (.int (c % 9)))))) :
    SWs B F_plain_by NoX n (rP is first count sl wide most b m.d x8 (some (.im (.int c))) (some (.im e.d)) (some (.im (.int (c % 9))))) (stepBody) Q := by
  have hq := C.quiet
  refine SWs.consK (SW.mono (Q := At (rP is first count sl wide most b (w01 c e m).d x8 (some (.im (.int c))) (some (.im e.d)) (some (.im (.int (c % 9)))))) (SW.ife (TW.cmpK (EW.name 11 rfl rfl (EW.cint (⟨_, CmpS.ltI _ _, ?_⟩))))) ?_)
  · try dsimp only
    split
    · rename_i h
      have h' : c % 9 < 2 := by simpa using h
      refine SWs.consK (SW.assignK 7 rfl (by decide) (by decide) (EW.tupleK (LW.consK (EW.subK (EW.listK (LW.consK (EW.cstr (LW.consK (EW.cstr (LW.nil (⟨_, .cons (.cons .nil), (show 2 ≤ sizeLine by decide), EW.name 11 rfl rfl (⟨_, SubS.list (by (first | lia | omega)) (by (first | lia | omega)) (andor _ (by (first | lia | omega)) h'), LW.consK (EW.tupleK (LW.consK (EW.name 7 rfl rfl (LW.consK (EW.name 10 rfl rfl (LW.nil (⟨_, .cons (.cons .nil), (show 2 ≤ sizeLine by decide), LW.nil (⟨_, .cons (.cons .nil), (show 2 ≤ sizeLine by decide), ⟨_, rfl, SWs.nil ⟨rfl, ?_⟩⟩⟩)⟩)))))))⟩)⟩)))))))))))
      rw [w01, if_pos h']; rfl
    · rename_i h
      refine SWs.nil ⟨rfl, ?_⟩
      rw [w01, if_neg (by simpa using h)]
  rintro fl ρ' ⟨rfl, rfl⟩
  refine SWs.consK (SW.mono (Q := At (rP is first count sl wide most b (w2 c e (w01 c e m)).d x8 (some (.im (.int c))) (some (.im e.d)) (some (.im (.int (c % 9)))))) (SW.ife (TW.cmpK (EW.name 11 rfl rfl (EW.cint (⟨_, CmpS.eqI _ _, ?_⟩))))) ?_)
  · try dsimp only
    split
    · rename_i h
      refine SWs.consK (SW.assignK 7 rfl (by decide) (by decide) (EW.tupleK (LW.consK (EW.cstr (LW.consK (EW.tupleK (LW.consK (EW.tupleK (LW.consK (EW.cstr (LW.consK (EW.name 7 rfl rfl (LW.nil (⟨_, .cons (.cons .nil), (show 2 ≤ sizeLine by decide), LW.consK (EW.name 10 rfl rfl (LW.nil (⟨_, .cons (.cons .nil), (show 2 ≤ sizeLine by decide), LW.nil (⟨_, .cons (.cons .nil), (show 2 ≤ sizeLine by decide), ⟨_, rfl, SWs.nil ⟨rfl, ?_⟩⟩⟩)⟩)))⟩))))))))))))))
      rw [w2, if_pos (by simpa using h)]; rfl
    · rename_i h
      refine SWs.nil ⟨rfl, ?_⟩
      rw [w2, if_neg (by simpa using h)]
  rintro fl ρ' ⟨rfl, rfl⟩
  refine SWs.consK (SW.mono (Q := At (rP is first count sl wide most b (w3 c e (w2 c e (w01 c e m))).d x8 (some (.im (.int c))) (some (.im e.d)) (some (.im (.int (c % 9)))))) (SW.ife (TW.cmpK (EW.name 11 rfl rfl (EW.cint (⟨_, CmpS.eqI _ _, ?_⟩))))) ?_)
  · try dsimp only
    split
    · rename_i h
      refine SWs.consK (SW.assignK 7 rfl (by decide) (by decide) (EW.tupleK (LW.consK (EW.cstr (LW.consK (EW.tupleK (LW.consK (EW.cstr (LW.consK (EW.tupleK (LW.consK (EW.name 10 rfl rfl (LW.consK (EW.name 7 rfl rfl (LW.consK (EW.tupleK (LW.consK (EW.cstr (LW.consK (EW.tupleK (LW.nil (⟨_, .nil, (show 0 ≤ sizeLine by decide), LW.nil (⟨_, .cons (.cons .nil), (show 2 ≤ sizeLine by decide), LW.nil (⟨_, .cons (.cons (.cons .nil)), (show 3 ≤ sizeLine by decide), LW.nil (⟨_, .cons (.cons .nil), (show 2 ≤ sizeLine by decide), LW.nil (⟨_, .cons (.cons .nil), (show 2 ≤ sizeLine by decide), ⟨_, rfl, SWs.nil ⟨rfl, ?_⟩⟩⟩)⟩)⟩)⟩)⟩))))))))))))))))))))))
      rw [w3, if_pos (by simpa using h)]; rfl
    · rename_i h
      refine SWs.nil ⟨rfl, ?_⟩
      rw [w3, if_neg (by simpa using h)]
  rintro fl ρ' ⟨rfl, rfl⟩
  refine SWs.consK (SW.mono (Q := At (rP is first count sl wide most b (w4 c e (w3 c e (w2 c e (w01 c e m)))).d x8 (some (.im (.int c))) (some (.im e.d)) (some (.im (.int (c % 9)))))) (SW.ife (TW.cmpK (EW.name 11 rfl rfl (EW.cint (⟨_, CmpS.eqI _ _, ?_⟩))))) ?_)
  · try dsimp only
    split
    · rename_i h
      refine SWs.consK (SW.assignK 7 rfl (by decide) (by decide) (EW.tupleK (LW.consK (EW.cstr (LW.consK (EW.tupleK (LW.consK (EW.tupleK (LW.consK (EW.cstr (LW.consK (EW.tupleK (LW.consK (EW.name 10 rfl rfl (LW.consK (EW.name 7 rfl rfl (LW.nil (⟨_, .cons (.cons .nil), (show 2 ≤ sizeLine by decide), LW.nil (⟨_, .cons (.cons .nil), (show 2 ≤ sizeLine by decide), LW.consK (EW.tupleK (LW.consK (EW.cstr (LW.consK (EW.name 10 rfl rfl (LW.nil (⟨_, .cons (.cons .nil), (show 2 ≤ sizeLine by decide), LW.nil (⟨_, .cons (.cons .nil), (show 2 ≤ sizeLine by decide), LW.nil (⟨_, .cons (.cons .nil), (show 2 ≤ sizeLine by decide), ⟨_, rfl, SWs.nil ⟨rfl, ?_⟩⟩⟩)⟩)⟩)))))))⟩)⟩))))))))))))))))))
      rw [w4, if_pos (by simpa using h)]; rfl
    · rename_i h
      refine SWs.nil ⟨rfl, ?_⟩
      rw [w4, if_neg (by simpa using h)]
  rintro fl ρ' ⟨rfl, rfl⟩
  refine SWs.consK (SW.mono (Q := At (rP is first count sl wide most b (w5 c e (w4 c e (w3 c e (w2 c e (w01 c e m))))).d x8 (some (.im (.int c))) (some (.im e.d)) (some (.im (.int (c % 9)))))) (SW.ife (TW.cmpK (EW.name 11 rfl rfl (EW.cint (⟨_, CmpS.eqI _ _, ?_⟩))))) ?_)
  · try dsimp only
    split
    · rename_i h
      refine SWs.consK (SW.assignK 7 rfl (by decide) (by decide) (EW.tupleK (LW.consK (EW.cstr (LW.consK (EW.tupleK (LW.consK (EW.name 10 rfl rfl (LW.consK (EW.tupleK (LW.consK (EW.cstr (LW.consK (EW.tupleK (LW.nil (⟨_, .nil, (show 0 ≤ sizeLine by decide), LW.nil (⟨_, .cons (.cons .nil), (show 2 ≤ sizeLine by decide), LW.consK (EW.name 7 rfl rfl (LW.nil (⟨_, .cons (.cons (.cons .nil)), (show 3 ≤ sizeLine by decide), LW.nil (⟨_, .cons (.cons .nil), (show 2 ≤ sizeLine by decide), ⟨_, rfl, SWs.nil ⟨rfl, ?_⟩⟩⟩)⟩)))⟩)⟩))))))))))))))))
      rw [w5, if_pos (by simpa using h)]; rfl
    · rename_i h
      refine SWs.nil ⟨rfl, ?_⟩
      rw [w5, if_neg (by simpa using h)]
  rintro fl ρ' ⟨rfl, rfl⟩
  refine SWs.consK (SW.mono (Q := At (rP is first count sl wide most b (w6 c e (w5 c e (w4 c e (w3 c e (w2 c e (w01 c e m)))))).d x8 (some (.im (.int c))) (some (.im e.d)) (some (.im (.int (c % 9)))))) (SW.ife (TW.cmpK (EW.name 11 rfl rfl (EW.cint (⟨_, CmpS.eqI _ _, ?_⟩))))) ?_)
  · try dsimp only
    split
    · rename_i h
      refine SWs.consK (SW.assignK 7 rfl (by decide) (by decide) (EW.tupleK (LW.consK (EW.cstr (LW.consK (EW.tupleK (LW.consK (EW.tupleK (LW.consK (EW.cstr (LW.consK (EW.tupleK (LW.consK (EW.cstr (LW.consK (EW.name 7 rfl rfl (LW.nil (⟨_, .cons (.cons .nil), (show 2 ≤ sizeLine by decide), LW.nil (⟨_, .cons (.cons .nil), (show 2 ≤ sizeLine by decide), LW.consK (EW.tupleK (LW.consK (EW.cstr (LW.consK (EW.name 10 rfl rfl (LW.nil (⟨_, .cons (.cons .nil), (show 2 ≤ sizeLine by decide), LW.nil (⟨_, .cons (.cons .nil), (show 2 ≤ sizeLine by decide), LW.nil (⟨_, .cons (.cons .nil), (show 2 ≤ sizeLine by decide), ⟨_, rfl, SWs.nil ⟨rfl, ?_⟩⟩⟩)⟩)⟩)))))))⟩)⟩))))))))))))))))))
      rw [w6, if_pos (by simpa using h)]; rfl
    · rename_i h
      refine SWs.nil ⟨rfl, ?_⟩
      rw [w6, if_neg (by simpa using h)]
  rintro fl ρ' ⟨rfl, rfl⟩
  refine SWs.consK (SW.mono (Q := At (rP is first count sl wide most b (w7 c e (w6 c e (w5 c e (w4 c e (w3 c e (w2 c e (w01 c e m))))))).d x8 (some (.im (.int c))) (some (.im e.d)) (some (.im (.int (c % 9)))))) (SW.ife (TW.cmpK (EW.name 11 rfl rfl (EW.cint (⟨_, CmpS.eqI _ _, ?_⟩))))) ?_)
  · try dsimp only
    split
    · rename_i h
      refine SWs.consK (SW.assignK 7 rfl (by decide) (by decide) (EW.tupleK (LW.consK (EW.cstr (LW.consK (EW.tupleK (LW.consK (EW.tupleK (LW.consK (EW.cstr (LW.consK (EW.tupleK (LW.consK (EW.name 7 rfl rfl (LW.nil (⟨_, .cons .nil, (show 1 ≤ sizeLine by decide), LW.nil (⟨_, .cons (.cons .nil), (show 2 ≤ sizeLine by decide), LW.consK (EW.tupleK (LW.consK (EW.cstr (LW.consK (EW.tupleK (LW.consK (EW.tupleK (LW.consK (EW.cstr (LW.consK (EW.tupleK (LW.consK (EW.name 10 rfl rfl (LW.nil (⟨_, .cons .nil, (show 1 ≤ sizeLine by decide), LW.nil (⟨_, .cons (.cons .nil), (show 2 ≤ sizeLine by decide), LW.nil (⟨_, .cons .nil, (show 1 ≤ sizeLine by decide), LW.nil (⟨_, .cons (.cons .nil), (show 2 ≤ sizeLine by decide), LW.nil (⟨_, .cons (.cons .nil), (show 2 ≤ sizeLine by decide), LW.nil (⟨_, .cons (.cons .nil), (show 2 ≤ sizeLine by decide), ⟨_, rfl, SWs.nil ⟨rfl, ?_⟩⟩⟩)⟩)⟩)⟩)⟩)⟩)))))))))))))))⟩)⟩))))))))))))))))
      rw [w7, if_pos (by simpa using h)]; rfl
    · rename_i h
      refine SWs.nil ⟨rfl, ?_⟩
      rw [w7, if_neg (by simpa using h)]
  rintro fl ρ' ⟨rfl, rfl⟩
  refine SWs.consK (SW.mono (Q := At (rP is first count sl wide most b (stepSt c e m).d x8 (some (.im (.int c))) (some (.im e.d)) (some (.im (.int (c % 9)))))) (SW.ife (TW.cmpK (EW.name 11 rfl rfl (EW.cint (⟨_, CmpS.eqI _ _, ?_⟩))))) ?_)
  · try dsimp only
    split
    · rename_i h
      refine SWs.consK (SW.assignK 7 rfl (by decide) (by decide) (EW.tupleK (LW.consK (EW.subK (EW.listK (LW.consK (EW.cstr (LW.consK (EW.cstr (LW.nil (⟨_, .cons (.cons .nil), (show 2 ≤ sizeLine by decide), EW.binK (EW.binK (EW.name 9 rfl rfl (EW.cint (⟨_, BinS.fdivP (by decide) (by decide), EW.cint (⟨_, BinS.modP (by decide), ⟨_, SubS.list (by (first | lia | omega)) (by (first | lia | omega)) (andor _ (by (first | lia | omega)) (by (first | lia | omega))), LW.consK (EW.binK (EW.tupleK (LW.consK (EW.name 10 rfl rfl (LW.consK (EW.name 10 rfl rfl (LW.consK (EW.name 7 rfl rfl (LW.nil (⟨_, .cons (.cons (.cons .nil)), (show 3 ≤ sizeLine by decide), EW.binK (EW.tupleK (LW.consK (EW.name 10 rfl rfl (LW.nil (⟨_, .cons .nil, (show 1 ≤ sizeLine by decide), EW.binK (EW.cint (EW.binK (EW.binK (EW.name 9 rfl rfl (EW.cint (⟨_, BinS.fdivP (by decide) (by decide), EW.cint (⟨_, BinS.modP (by decide), ⟨_, BinS.add _ _, ⟨_, BinS.mulT1 (by (first | lia | omega)) (by (first | lia | omega)), ⟨_, BinS.addT ?_, LW.nil (⟨_, .cons (.cons .nil), (show 2 ≤ sizeLine by decide), ⟨_, rfl, SWs.nil ⟨rfl, ?_⟩⟩⟩)⟩⟩⟩⟩)⟩))))))⟩)))))⟩))))))))))⟩⟩)⟩))))⟩)))))))))))
      · simp only [List.length_replicate, List.length_cons, List.length_nil]; exact h64 (by (first | lia | omega))
      rw [stepSt, w8, if_pos (by simpa using h), St.d, Sts.ds, Sts.ds, Sts.ds, rep_ds]; rfl
    · rename_i h
      refine SWs.nil ⟨rfl, ?_⟩
      rw [stepSt, w8, if_neg (by simpa using h)]
  rintro fl ρ' ⟨rfl, rfl⟩
  exact SWs.nil h
noncomputable def PlI (is : List Int) (first count wide most b : Int) (sl : Sl) (nm : List Str) (rest : List D) (ρ' : List (Option Sl)) : Prop := ∃ (k : Int) (j : Nat) (m : St) (y8 y9 y10 y11 : Option Sl), rest = intsFrom k j ∧ 1 ≤ k ∧ k + j ≤ 6 ∧ plainGo is first nm wide most k j m = plainGo is first nm wide most 1 (count - 1).toNat (endSt b nm wide most) ∧ ρ' = rP is first count sl wide most b m.d y8 y9 y10 y11
theorem plain_rest (C : Cx B) (n : Nat) {is : List Int} {first count wide most b : Int} {sl : Sl} {nm : List Str} (hsl : (sl.av 3).ag = .ct (.lst (nm.map .str))) (hw : 0 ≤ wide) (hm : 0 < most) (hl : nm.length < 64) (hi : is.length < 64)
    (hf : 0 ≤ first) (hf2 : first < 1000) (hc : 1 ≤ count) (hc2 : count ≤ 6) {x7 x8 x9 x10 x11 : Option Sl} {Q : Rs → Prop} (h : Q (.im (plainGo is first nm wide most 1 (count - 1).toNat (endSt b nm wide most)).d)) :
    SWs B F_plain_by NoX (n + 2) [some (.fz (.lst (is.map .int))), some (.im (.int first)), some (.im (.int count)), some sl, some (.im (.int wide)), some (.im (.int most)), some (.im (.int b)), x7, x8, x9, x10, x11] (plainBody.drop 3) (RetOk Q) := by
  have hq := C.quiet
  have endcall : ∀ {c : Int}, Spec B "_law_end_by" NoX (n + 2) [.im (.int c), (sl.av 3).ag, .im (.int wide), .im (.int most)] (Is (.im (endSt c nm wide most).d)) := fun {c} => by rw [hsl]; exact end_by_spec C n hw hm hl
  refine SWs.consK (SW.assignK 7 rfl (by decide) (by decide) (EW.callK rfl (LW.consK (EW.name 6 rfl rfl (LW.consK (EW.name 3 rfl rfl (LW.consK (EW.name 4 rfl rfl (LW.consK (EW.name 5 rfl rfl (LW.nil ?_))))))))) C.f_end_by.some))
  refine Spec.eq endcall ?_ (Nat.le_refl _)
  refine ⟨_, rfl, ?_⟩
  refine SWs.consK (SW.forK (EW.bcallK rfl C.b_range bb_range trivial (LW.consK (EW.cint (LW.consK (EW.name 2 rfl rfl (LW.nil (⟨_, BuiS.range2 _ _, ⟨_, IterS.rng (by decide) (by decide) (by (first | lia | omega)) (by (first | lia | omega)),
    PlI is first count wide most b sl nm, ?_, ?_, ?_⟩⟩))))))))
  · exact ⟨1, (count - 1).toNat, _, x8, x9, x10, x11, rfl, by decide, by (first | lia | omega), rfl, rfl⟩
  · rintro d rest ρ' ⟨k, j, m, y8, y9, y10, y11, e1, e2, e3, e4, rfl⟩
    cases j with
    | zero => cases e1
    | succ j =>
      cases e1
      refine AsW.name 8 rfl (by decide) (by decide) ?_
      refine SWs.consK (SW.assignK 9 rfl (by decide) (by decide) (EW.binK (EW.callK rfl (LW.consK (EW.name 0 rfl rfl (LW.consK (EW.binK (EW.name 1 rfl rfl (EW.name 8 rfl rfl (⟨_, BinS.add _ _, LW.nil ?_⟩))))))) C.f_cell_at.some)))
      refine Spec.eq (cell_at_spec C (n + 1) (by (first | lia | omega)) (by (first | lia | omega)) hi) ?_ (Nat.le_refl _)
      refine EW.binK (EW.cint (EW.name 8 rfl rfl (⟨_, BinS.mul (IntMulOk.of_left (by decide)), ⟨_, BinS.add _ _, ⟨_, rfl, ?_⟩⟩⟩)))
      refine SWs.consK (SW.assignK 10 rfl (by decide) (by decide) (EW.callK rfl (LW.consK (EW.binK (EW.name 9 rfl rfl (EW.cint (⟨_, BinS.fdivP (by decide) (by decide), LW.consK (EW.name 3 rfl rfl (LW.consK (EW.name 4 rfl rfl (LW.consK (EW.name 5 rfl rfl (LW.nil ?_))))))⟩))))) C.f_end_by.some))
      refine Spec.eq endcall ?_ (Nat.le_refl _)
      refine ⟨_, rfl, ?_⟩
      refine SWs.consK (SW.assignK 11 rfl (by decide) (by decide) (EW.binK (EW.name 9 rfl rfl (EW.cint (⟨_, BinS.modP (by decide), ⟨_, rfl, ?_⟩⟩)))))
      refine plain_step C (n + 2) (c := plainC is first k) (e := endSt (plainC is first k / 9) nm wide most) (m := m) ?_
      exact ⟨k + 1, j, _, _, _, _, _, rfl, by (first | lia | omega), by (first | lia | omega), e4, rfl⟩
  · rintro ρ' ⟨k, j, m, y8, y9, y10, y11, e1, e2, e3, e4, rfl⟩
    have : j = 0 := by cases j with | zero => rfl | succ j => cases e1
    subst this
    refine SWs.nil ?_
    refine SWs.consK (SW.retK (EW.name 7 rfl rfl ?_))
    show Q _
    rw [plainGo] at e4
    rw [e4]; exact h
theorem plain_by_spec (C : Cx B) (n : Nat) {is : List Int} {first count wide most : Int} {names : List Str} (hw : 0 ≤ wide) (hm : 0 < most) (hl : names.length < 64) (hi : is.length < 64)
    (hf : 0 ≤ first) (hf2 : first < 1000) (hc : 1 ≤ count) (hc2 : count ≤ 6) :
    Spec B "_law_plain_by" NoX (n + 3) [.ct (.lst (is.map .int)), .im (.int first), .im (.int count), .ct (.lst (names.map .str)), .im (.int wide), .im (.int most)] (Is (.im (plainSt is first count names wide most).d)) := by
  refine Spec.of_body (F := F_plain_by) C.f_plain_by rfl (by decide) rfl ?_
  have hq := C.quiet
  refine SWs.consK (SW.assignK 6 rfl (by decide) (by decide) (EW.callK rfl (LW.consK (EW.name 0 rfl rfl (LW.consK (EW.name 1 rfl rfl (LW.nil ?_))))) C.f_cell_at.some))
  refine Spec.eq (cell_at_spec C (n + 1) hf (by (first | lia | omega)) hi) ?_ (Nat.le_refl _)
  refine ⟨_, rfl, ?_⟩
  refine SWs.consK (SW.ife (TW.cmpK (EW.binK (EW.name 6 rfl rfl (EW.cint (⟨_, BinS.modP (by decide), EW.cint (⟨_, CmpS.eqI _ _, ?_⟩)⟩))))))
  try dsimp only
  split
  · rename_i h
    refine SWs.consK (SW.retK (EW.tupleK (LW.consK (EW.cstr (LW.consK (EW.tupleK (LW.nil (⟨_, .nil, (show 0 ≤ sizeLine by decide), LW.nil (⟨_, .cons (.cons .nil), (show 2 ≤ sizeLine by decide), ?_⟩)⟩))))))))
    show _ = _
    rw [plainSt, if_pos (by simpa using h)]; rfl
  · rename_i h
    refine SWs.nil ?_
    refine SWs.consK (SW.ife (TW.cmpK (EW.binK (EW.name 6 rfl rfl (EW.cint (⟨_, BinS.modP (by decide), EW.cint (⟨_, CmpS.eqI _ _, ?_⟩)⟩))))))
    have hn : plainSt is first count names wide most = plainGo is first (plainN is first names) wide most 1 (count - 1).toNat (endSt (cellAt is first) (plainN is first names) wide most) := by rw [plainSt, if_neg (by simpa using h)]
    try dsimp only
    split
    · rename_i h2
      refine SWs.consK (SW.assignK 3 rfl (by decide) (by decide) (EW.listK (LW.nil (⟨_, .nil, (show 0 ≤ sizeLine by decide), ⟨_, rfl, SWs.nil ?_⟩⟩))))
      refine plain_rest C n (nm := []) rfl hw hm (by decide) hi hf hf2 hc hc2 ?_
      show _ = _
      rw [hn, plainN, if_pos (by simpa using h2)]
    · rename_i h2
      refine SWs.nil ?_
      refine plain_rest C n (nm := names) rfl hw hm hl hi hf hf2 hc hc2 ?_
      show _ = _
      rw [hn, plainN, if_neg (by simpa using h2)]
theorem nameAt {names : List Str} (h4 : names.length = 4) (c : Int) (h0 : 0 ≤ c) (h : c < 4) : (names.map D.str)[c.toNat]? = some (.str (names.getD c.toNat default)) := by
  have hj : c.toNat < names.length := by (first | lia | omega)
  rw [List.getElem?_map, List.getD_eq_getElem?_getD, List.getElem?_eq_getElem hj]; rfl
theorem bound_by_spec (C : Cx B) (n : Nat) {c : Int} {s : St} {names : List Str} (h4 : names.length = 4) :
    Spec B "_law_bound_by" NoX (n + 1) [.im (.int c), .im s.d, .ct (.lst (names.map .str))] (Is (.im (boundSt c s names).d)) := by
  refine Spec.of_body (F := F_bound_by) C.f_bound_by rfl (by decide) rfl ?_
  have hq := C.quiet
  refine SWs.consK (SW.assignK 3 rfl (by decide) (by decide) (EW.tupleK (LW.consK (EW.subK (EW.listK (LW.consK (EW.cstr (LW.consK (EW.cstr (LW.nil (⟨_, .cons (.cons .nil), (show 2 ≤ sizeLine by decide), EW.binK (EW.name 0 rfl rfl (EW.cint (⟨_, BinS.modP (by decide), ⟨_, SubS.list (by (first | lia | omega)) (by (first | lia | omega)) (someall _ (by (first | lia | omega)) (by (first | lia | omega))), LW.consK (EW.subK (EW.name 2 rfl rfl (EW.binK (EW.binK (EW.name 0 rfl rfl (EW.cint (⟨_, BinS.fdivP (by decide) (by decide), EW.cint (⟨_, BinS.modP (by decide), ⟨_, SubS.list (by (first | lia | omega)) (by (first | lia | omega)) (nameAt h4 _ (by (first | lia | omega)) (by (first | lia | omega))), LW.consK (EW.name 1 rfl rfl (LW.nil (⟨_, .cons (.cons (.cons .nil)), (show 3 ≤ sizeLine by decide), ⟨_, rfl, ?_⟩⟩)))⟩⟩)⟩)))))))⟩⟩)))⟩)))))))))))
  refine SWs.consK (SW.assignK 4 rfl (by decide) (by decide) (EW.binK (EW.binK (EW.name 0 rfl rfl (EW.cint (⟨_, BinS.fdivP (by decide) (by decide), EW.cint (⟨_, BinS.modP (by decide), ⟨_, rfl, ?_⟩⟩)⟩))))))
  refine SWs.consK (SW.ife (TW.cmpK (EW.name 4 rfl rfl (EW.cint (⟨_, CmpS.eqI _ _, ?_⟩)))))
  try dsimp only
  split
  · rename_i h
    refine SWs.consK (SW.retK (EW.name 3 rfl rfl (?_)))
    show _ = _
    unfold boundSt
    rw [if_pos (by simpa using h)]; rfl
  rename_i h
  refine SWs.nil ?_
  refine SWs.consK (SW.ife (TW.cmpK (EW.name 4 rfl rfl (EW.cint (⟨_, CmpS.eqI _ _, ?_⟩)))))
  try dsimp only
  split
  · rename_i h2
    refine SWs.consK (SW.retK (EW.tupleK (LW.consK (EW.cstr (LW.consK (EW.name 3 rfl rfl (LW.nil (⟨_, .cons (.cons .nil), (show 2 ≤ sizeLine by decide), ?_⟩))))))))
    show _ = _
    unfold boundSt
    rw [if_neg (by simpa using h), if_pos (by simpa using h2)]; rfl
  rename_i h2
  refine SWs.nil ?_
  refine SWs.consK (SW.ife (TW.cmpK (EW.name 4 rfl rfl (EW.cint (⟨_, CmpS.eqI _ _, ?_⟩)))))
  try dsimp only
  split
  · rename_i h3
    refine SWs.consK (SW.retK (EW.tupleK (LW.consK (EW.cstr (LW.consK (EW.tupleK (LW.consK (EW.name 1 rfl rfl (LW.consK (EW.name 3 rfl rfl (LW.nil (⟨_, .cons (.cons .nil), (show 2 ≤ sizeLine by decide), LW.nil (⟨_, .cons (.cons .nil), (show 2 ≤ sizeLine by decide), ?_⟩)⟩))))))))))))
    show _ = _
    unfold boundSt
    rw [if_neg (by simpa using h), if_neg (by simpa using h2), if_pos (by simpa using h3)]; rfl
  rename_i h3
  refine SWs.nil ?_
  refine SWs.consK (SW.retK (EW.tupleK (LW.consK (EW.cstr (LW.consK (EW.tupleK (LW.consK (EW.tupleK (LW.consK (EW.cstr (LW.consK (EW.tupleK (LW.nil (⟨_, .nil, (show 0 ≤ sizeLine by decide), LW.nil (⟨_, .cons (.cons .nil), (show 2 ≤ sizeLine by decide), LW.consK (EW.tupleK (LW.consK (EW.cstr (LW.consK (EW.tupleK (LW.consK (EW.cstr (LW.consK (EW.tupleK (LW.consK (EW.name 3 rfl rfl (LW.consK (EW.name 1 rfl rfl (LW.nil (⟨_, .cons (.cons .nil), (show 2 ≤ sizeLine by decide), LW.nil (⟨_, .cons (.cons .nil), (show 2 ≤ sizeLine by decide), LW.nil (⟨_, .cons (.cons .nil), (show 2 ≤ sizeLine by decide), LW.nil (⟨_, .cons (.cons .nil), (show 2 ≤ sizeLine by decide), LW.nil (⟨_, .cons (.cons .nil), (show 2 ≤ sizeLine by decide), ?_⟩)⟩)⟩)⟩)⟩)))))))))))))))⟩)⟩))))))))))))))
  show _ = _
  unfold boundSt
  rw [if_neg (by simpa using h), if_neg (by simpa using h2), if_neg (by simpa using h3)]; rfl
end Mine
end

section
open PySem PySem.W PyProof.Rows PySem.Calls PyProof
set_option Elab.async false
set_option maxHeartbeats 1600000
set_option maxRecDepth 100000
set_option linter.unusedVariables false
namespace Mine
variable {B : Bs}
theorem mem4 {d : D} (hd : d ∈ intsFrom 0 ((4 : Int) - 0).toNat) : ∃ k : Int, 0 ≤ k ∧ k < 4 ∧ d = .int k := by
  rcases List.mem_cons.mp hd with e | hd
  · exact ⟨0, by decide, by decide, e⟩
  rcases List.mem_cons.mp hd with e | hd
  · exact ⟨1, by decide, by decide, e⟩
  rcases List.mem_cons.mp hd with e | hd
  · exact ⟨2, by decide, by decide, e⟩
  rcases List.mem_cons.mp hd with e | hd
  · exact ⟨3, by decide, by decide, e⟩
  cases hd
noncomputable def NbIs (q : Rs) : Prop := ∃ ss : List Str, ss.length = 4 ∧ ss.Nodup ∧ (∀ s ∈ ss, nameW s = true) ∧ q = .fr (.lst (ss.map .str))
noncomputable def NbI (c : Int) (rest : List D) (ρ' : List (Option Sl)) : Prop := ∃ (w : Str) (num : Int) (x : Option Sl), w.length + rest.length = (1 + c % 8).toNat ∧ Lt w ∧ ρ' = [some (.im (.int c)), some (.im (.str "abcdefghijklmnopqrstuvwxyz")), some (.im (.int (1 + c % 8))), some (.im (.str w)), some (.im (.int num)), x, none, none]
theorem names_by_spec (C : Cx B) (n : Nat) {c : Int} : Spec B "_law_names_by" NoX (n + 1) [.im (.int c)] NbIs := by
  refine Spec.of_body (F := F_names_by) C.f_names_by rfl (by decide) rfl ?_
  have hq := C.quiet
  -- _law_letters = 'abcdefghijklmnopqrstuvwxyz'
  refine SWs.consK (SW.assignK 1 rfl (by decide) (by decide) (EW.cstr (⟨_, rfl, ?_⟩)))
  -- _law_size = 1 + _law_cell % 8
  refine SWs.consK (SW.assignK 2 rfl (by decide) (by decide) (EW.binK (EW.cint (EW.binK (EW.name 0 rfl rfl (EW.cint (⟨_, BinS.modP (by decide), ⟨_, BinS.add _ _, ⟨_, rfl, ?_⟩⟩⟩)))))))
  -- _law_word = ''
  refine SWs.consK (SW.assignK 3 rfl (by decide) (by decide) (EW.cstr (⟨_, rfl, ?_⟩)))
  -- _law_number = _law_cell
  refine SWs.consK (SW.assignK 4 rfl (by decide) (by decide) (EW.name 0 rfl rfl (⟨_, rfl, ?_⟩)))
  -- for _law_k in range(_law_size):
  refine SWs.consK (SW.forK (EW.bcallK rfl C.b_range bb_range trivial (LW.consK (EW.name 2 rfl rfl (LW.nil (⟨_, BuiS.range1 _, ⟨_, IterS.rng (by decide) (by decide) (by (first | lia | omega)) (by (first | lia | omega)),
    NbI c, ?_, ?_, ?_⟩⟩))))))
  · exact ⟨"", c, none, by rw [intsFrom_length]; simp [Str.length, show ("" : Str).cps.size = 0 from rfl], lt_nil, rfl⟩
  · rintro d rest ρ' ⟨w, num, x, h1, hlt, rfl⟩
    rw [List.length_cons] at h1
    refine AsW.name 5 rfl (by decide) (by decide) ?_
    -- _law_number = (_law_number * 48271 + 11) % 2147483647
    refine SWs.consK (SW.assignK 4 rfl (by decide) (by decide) (EW.binK (EW.binK (EW.binK (EW.name 4 rfl rfl (EW.cint (⟨_, BinS.mul (IntMulOk.of_right (by decide)), EW.cint (⟨_, BinS.add _ _, EW.cint (⟨_, BinS.modP (by decide), ⟨_, rfl, ?_⟩⟩)⟩)⟩)))))))
    generalize (num * 48271 + 11) % 2147483647 = num'
    -- _law_word = _law_word + _law_letters[_law_number // 7 % 26]
    refine SWs.consK (SW.assignK 3 rfl (by decide) (by decide) (EW.binK (EW.name 3 rfl rfl (EW.subK (EW.name 1 rfl rfl (EW.binK (EW.binK (EW.name 4 rfl rfl (EW.cint (⟨_, BinS.fdivP (by decide) (by decide), EW.cint (⟨_, BinS.modP (by decide), ⟨_, SubS.str (by (first | lia | omega)) (by (first | lia | omega)) (seqIndex_pos (by (first | lia | omega)) ?_) (letters_at (num' / 7 % 26).toNat (by (first | lia | omega))), ⟨_, BinS.addS ?_, ⟨_, rfl, ?_⟩⟩⟩⟩)⟩))))))))))
    · rw [show ("abcdefghijklmnopqrstuvwxyz" : Str).length = 26 from rfl]; (first | lia | omega)
    · exact Nat.le_trans (show _ ≤ 64 by show w.length + 1 ≤ 64; (first | lia | omega)) (by decide)
    refine SWs.nil ⟨w ++ ⟨#[97 + (num' / 7 % 26).toNat]⟩, num', _, ?_, lt_app hlt (lt_one (by (first | lia | omega))), rfl⟩
    have : (w ++ (⟨#[97 + (num' / 7 % 26).toNat]⟩ : Str)).length = w.length + 1 := Array.size_append
    (first | lia | omega)
  · rintro ρ' ⟨w, num, x, h1, hlt, rfl⟩
    rw [List.length_nil, Nat.add_zero] at h1
    refine SWs.nil ?_
    -- if _law_cell // 8 % 3 == 2:
    refine SWs.consK (SW.ife (TW.cmpK (EW.binK (EW.binK (EW.name 0 rfl rfl (EW.cint (⟨_, BinS.fdivP (by decide) (by decide), EW.cint (⟨_, BinS.modP (by decide), EW.cint (⟨_, CmpS.eqI _ _, ?_⟩)⟩)⟩)))))))
    have hwl : w.length ≤ sizeLine := Nat.le_trans (show _ ≤ 64 by (first | lia | omega)) (by decide)
    try dsimp only
    split
    · rename_i h
      -- return [_law_word[:1] * (1 + (_law_k + _law_cell // 24) % 8) for _law_k in range(4)]
      refine SWs.consK (SW.retK (EW.compV [("_law_k", .loc), ("_law_word", .cel), ("_law_cell", .cel)] 1 [3, 0] (by decide +kernel) (by decide +kernel) (EW.bcallK rfl C.b_range bb_range trivial (LW.consK (EW.cint (LW.nil (⟨_, BuiS.range1 _, ⟨_, IterS.rng (by decide) (by decide) (by decide) (by decide),
        (fun d => match d with | .int k => some (.str (nmA (Txt.slice w none (some 1)) (c / 24) k)) | _ => none), ?_, (show 4 ≤ sizeLine by decide), ?_⟩⟩)))))))
      · intro d hd
        have hk := mem4 hd
        obtain ⟨k, h0, h4, rfl⟩ := hk
        refine AsW.name 0 rfl (by decide) (by decide) ⟨rfl, IfsW.nil (ifT (EW.binK (EW.sliceK (EW.name 1 rfl rfl (PW.none (PW.someK (EW.cint (⟨_, rfl, ⟨_, SlcS.str hwl, EW.binK (EW.cint (EW.binK (EW.binK (EW.name 0 rfl rfl (EW.binK (EW.name 2 rfl rfl (EW.cint (⟨_, BinS.fdivP (by decide) (by decide), ⟨_, BinS.add _ _, EW.cint (⟨_, BinS.modP (by decide), ⟨_, BinS.add _ _, ⟨_, BinS.mulS ?_, ⟨_, rfl, rfl⟩⟩⟩⟩)⟩⟩))))))))⟩⟩))))))))⟩
        exact mulOk1 (slice1 (x := w) (by (first | lia | omega))) (by (first | lia | omega)) (by (first | lia | omega))
      · exact ⟨_, rfl, nmA_nodup (slice1 (by (first | lia | omega))), nmA_nm (slice1 (by (first | lia | omega))) (lt_slice hlt), rfl⟩
    refine SWs.nil ?_
    -- if _law_cell // 8 % 9 in [1, 4, 7]:
    refine SWs.consK (SW.ife (TW.cmpK (EW.binK (EW.binK (EW.name 0 rfl rfl (EW.cint (⟨_, BinS.fdivP (by decide) (by decide), EW.cint (⟨_, BinS.modP (by decide), EW.listK (LW.consK (EW.cint (LW.consK (EW.cint (LW.consK (EW.cint (LW.nil (⟨_, .cons (.cons (.cons .nil)), (show 3 ≤ sizeLine by decide), ⟨_, CmpS.inInts (is := [1, 4, 7]), ?_⟩⟩))))))))⟩)⟩)))))))
    try dsimp only
    split
    · rename_i h h'
      -- _law_usual = ['new', ..]
      refine SWs.consK ?_
      refine @SW.assign _ _ _ _ _ _ _ _ _ _ 6 _ rfl (by decide) (by decide) ?_ ?_
      rotate_left
      · intro _; rfl
      refine @EW.strs _ _ _ _ _ _ _ _ (usualL.take 14) (by decide +kernel) (show 14 ≤ sizeLine by decide) ?_
      refine ⟨_, rfl, ?_⟩
      refine SWs.consK ?_
      refine @SW.assign _ _ _ _ _ _ _ _ _ _ 6 _ rfl (by decide) (by decide) ?_ ?_
      rotate_left
      · intro _; rfl
      refine @EW.bin _ _ _ _ _ _ _ _ _ _ ?_
      refine @EW.name _ _ _ _ _ _ _ _ 6 _ _ rfl rfl ?_
      refine @EW.strs _ _ _ _ _ _ _ _ (usualL.drop 14) (by decide +kernel) (show 11 ≤ sizeLine by decide) ?_
      refine ⟨_, BinS.addL (show 25 ≤ sizeLine by decide), ?_⟩
      refine ⟨_, rfl, ?_⟩
      rw [← List.map_append, List.take_append_drop]
      refine SWs.consK (SW.retK (EW.compV [("_law_k", .loc), ("_law_usual", .cel), ("_law_cell", .cel)] 1 [6, 0] (by decide +kernel) (by decide +kernel) (EW.bcallK rfl C.b_range bb_range trivial (LW.consK (EW.cint (LW.nil (⟨_, BuiS.range1 _, ⟨_, IterS.rng (by decide) (by decide) (by decide) (by decide),
        (fun d => match d with | .int k => some (.str (nmB (c / 72) k)) | _ => none), ?_, (show 4 ≤ sizeLine by decide), ?_⟩⟩)))))))
      · intro d hd
        obtain ⟨k, h0, h4, rfl⟩ := mem4 hd
        have hu : ∀ j : Int, 0 ≤ j → j < 25 → (usualL.map D.str)[j.toNat]? = some (.str ((usualL[j.toNat]?).getD default)) := fun j h1 h2 => by
          have hl : j.toNat < usualL.length := by rw [show usualL.length = 25 from rfl]; (first | lia | omega)
          rw [List.getElem?_map, List.getElem?_eq_getElem hl]; rfl
        refine AsW.name 0 rfl (by decide) (by decide) ⟨rfl, IfsW.nil (ifT (EW.subK (EW.name 1 rfl rfl (EW.binK (EW.binK (EW.binK (EW.name 2 rfl rfl (EW.cint (⟨_, BinS.fdivP (by decide) (by decide), EW.subK (EW.listK (LW.consK (EW.cint (LW.consK (EW.cint (LW.consK (EW.cint (LW.consK (EW.cint (LW.nil (⟨_, .cons (.cons (.cons (.cons .nil))), (show 4 ≤ sizeLine by decide), EW.name 0 rfl rfl (⟨_, SubS.list (d := .int (offs k)) h0 (by (first | lia | omega)) ?_, ⟨_, BinS.add _ _, EW.cint (⟨_, BinS.modP (by decide), ⟨_, SubS.list (by (first | lia | omega)) (by (first | lia | omega)) (hu _ (by (first | lia | omega)) (by (first | lia | omega))), ⟨_, rfl, rfl⟩⟩⟩)⟩⟩)⟩)))))))))))⟩)))))))))⟩
        have hk : k = 0 ∨ k = 1 ∨ k = 2 ∨ k = 3 := by (first | lia | omega)
        rcases hk with rfl | rfl | rfl | rfl <;> rfl
      · exact ⟨_, rfl, nmB_nodup, nmB_nm, rfl⟩
    · refine SWs.nil ?_
      -- _law_spot = _law_cell // 24 % _law_size
      refine SWs.consK (SW.assignK 7 rfl (by decide) (by decide) (EW.binK (EW.binK (EW.name 0 rfl rfl (EW.cint (⟨_, BinS.fdivP (by decide) (by decide), EW.name 2 rfl rfl (⟨_, BinS.modP (by (first | lia | omega)), ⟨_, rfl, ?_⟩⟩)⟩))))))
      refine SWs.consK (SW.retK (EW.compV [("_law_k", .loc), ("_law_word", .cel), ("_law_letters", .cel), ("_law_spot", .cel), ("_law_cell", .cel)] 1 [3, 1, 7, 0] (by decide +kernel) (by decide +kernel) (EW.bcallK rfl C.b_range bb_range trivial (LW.consK (EW.cint (LW.nil (⟨_, BuiS.range1 _, ⟨_, IterS.rng (by decide) (by decide) (by decide) (by decide),
        (fun d => match d with | .int k => some (.str (nmC (Txt.slice w none (some (c / 24 % (1 + c % 8)))) (Txt.slice w (some (c / 24 % (1 + c % 8) + 1)) none) (c / 192) k)) | _ => none), ?_, (show 4 ≤ sizeLine by decide), ?_⟩⟩)))))))
      · intro d hd
        obtain ⟨k, h0, h4, rfl⟩ := mem4 hd
        have hs1 := Txt.slice_le w none (some (c / 24 % (1 + c % 8)))
        have hs2 := Txt.slice_le w (some (c / 24 % (1 + c % 8) + 1)) none
        refine AsW.name 0 rfl (by decide) (by decide) ⟨rfl, IfsW.nil (ifT (EW.binK (EW.binK (EW.sliceK (EW.name 1 rfl rfl (PW.none (PW.someK (EW.name 3 rfl rfl (⟨_, rfl, ⟨_, SlcS.str hwl, EW.subK (EW.name 2 rfl rfl (EW.binK (EW.binK (EW.binK (EW.name 4 rfl rfl (EW.cint (⟨_, BinS.fdivP (by decide) (by decide), EW.binK (EW.cint (EW.name 0 rfl rfl (⟨_, BinS.mul (IntMulOk.of_left (by decide)), ⟨_, BinS.add _ _, EW.cint (⟨_, BinS.modP (by decide), ⟨_, SubS.str (by (first | lia | omega)) (by (first | lia | omega)) (seqIndex_pos (by (first | lia | omega)) ?_) (letters_at ((c / 192 + 7 * k) % 26).toNat (by (first | lia | omega))), ⟨_, BinS.addS ?_, EW.sliceK (EW.name 1 rfl rfl (PW.someK (EW.binK (EW.name 3 rfl rfl (EW.cint (⟨_, BinS.add _ _, ⟨_, rfl, PW.none (⟨_, SlcS.str hwl, ⟨_, BinS.addS ?_, ⟨_, rfl, rfl⟩⟩⟩)⟩⟩))))))⟩⟩⟩)⟩⟩)))⟩)))))))⟩⟩)))))))))⟩
        · rw [show ("abcdefghijklmnopqrstuvwxyz" : Str).length = 26 from rfl]; (first | lia | omega)
        · exact Nat.le_trans (show _ ≤ 64 by show (Txt.slice w none (some (c / 24 % (1 + c % 8)))).length + 1 ≤ 64; (first | lia | omega)) (by decide)
        · refine Nat.le_trans (show _ ≤ 64 from ?_) (by decide)
          have : (Txt.slice w none (some (c / 24 % (1 + c % 8))) ++ (⟨#[97 + ((c / 192 + 7 * k) % 26).toNat]⟩ : Str)).length = (Txt.slice w none (some (c / 24 % (1 + c % 8)))).length + 1 := Array.size_append
          (first | lia | omega)
      · exact ⟨_, rfl, nmC_nodup, nmC_nm hlt (by (first | lia | omega)) (Int.emod_nonneg _ (by (first | lia | omega))) (by have := Int.emod_lt_of_pos (c / 24) (show 0 < 1 + c % 8 by (first | lia | omega)); (first | lia | omega)), rfl⟩
end Mine
end

section
open PySem PySem.W PyProof.Rows PySem.Calls PyProof
set_option Elab.async false
set_option maxHeartbeats 1600000
set_option maxRecDepth 100000
set_option linter.unusedVariables false
namespace Mine
variable {B : Bs}
noncomputable def NN (P : Prop) : Str → Prop := fun c => c = "NoNote" ∧ P
noncomputable abbrev WrdNo (ws : List Str) (a : Nat) : Prop := ws[a]? = none
noncomputable def WrdIs (ws : List Str) (a : Nat) (q : Rs) : Prop := ∃ w, ws[a]? = some w ∧ q = .im (.str w)
noncomputable abbrev NamNo (ws : List Str) (a : Nat) : Prop := ¬ ∃ w, ws[a]? = some w ∧ nameW w = true
noncomputable def NamIs (ws : List Str) (a : Nat) (q : Rs) : Prop := ∃ w, ws[a]? = some w ∧ nameW w = true ∧ q = .im (.str w)
noncomputable abbrev NumNo (ws : List Str) (a : Nat) : Prop := ¬ ∃ w i, ws[a]? = some w ∧ numW w = some i
noncomputable def NumIs (ws : List Str) (a : Nat) (q : Rs) : Prop := ∃ w i, ws[a]? = some w ∧ numW w = some i ∧ q = .im (.int i)
noncomputable abbrev SumNo (ws : List Str) (a : Nat) : Prop := pSum rd (ws.drop a) = none
noncomputable def SumIs (ws : List Str) (a : Nat) (q : Rs) : Prop := ∃ k ps at', a < at' ∧ at' ≤ ws.length ∧ pSum rd (ws.drop a) = some ((k, ps), ws.drop at') ∧ q = .im (.tup [sumD k ps, .int (at' : Nat)])
noncomputable def NamI (ws : List Str) (at_ : Nat) (w : Str) (rest : List D) (ρ' : List (Option Sl)) : Prop := ∃ (r : List Str) (x : Option Sl), rest = r.map .str ∧ ((signs w).all fun c => Txt.contains lettersL c) = (r.all fun c => Txt.contains lettersL c) ∧
  ρ' = [some (.fz (.lst (ws.map .str))), some (.im (.int at_)), some (.im (.str w)), x]
noncomputable def NumI (ws : List Str) (at_ : Nat) (w : Str) (rest : List D) (ρ' : List (Option Sl)) : Prop := ∃ (r : List Str) (x : Option Sl), rest = r.map .str ∧ ((signs (figs w)).all fun c => Txt.contains figuresL c) = (r.all fun c => Txt.contains figuresL c) ∧
  ρ' = [some (.fz (.lst (ws.map .str))), some (.im (.int at_)), some (.im (.str w)), some (.im (.str (figs w))), x]
noncomputable def SumI (ws : List Str) (at_ : Nat) (k : Int) (m : Nat) (ρ' : List (Option Sl)) : Prop := ∃ (a : Nat) (acc : List (Str × Int)) (x y : Option Sl), m = ws.length - a ∧ at_ < a ∧ acc.length ≤ a ∧ pParts rd [] (ws.drop (at_ + 1)) = pParts rd acc (ws.drop a) ∧
  ρ' = [some (.fz (.lst (ws.map .str))), some (.im (.int (a : Nat))), some (.im (.int k)), some (.own (.lst (acc.map pD))), x, y]
theorem word_at_spec (C : Cx B) (n : Nat) {ws : List Str} {at_ : Nat} (hl : ws.length < 2 ^ 60) :
    Spec B "word_at" (NN (WrdNo ws at_)) (n + 1) [.ct (.lst (ws.map .str)), .im (.int at_)] (WrdIs ws at_) := by
  refine Spec.of_body (F := F_word_at) C.f_word_at rfl (by decide) rfl ?_
  have hq := C.quiet
  refine SWs.consK (SW.ife (TW.cmpK (EW.name 1 rfl rfl (EW.bcallK rfl C.b_len bb_len trivial (LW.consK (EW.name 0 rfl rfl (LW.nil (⟨_, BuiS.lenL (by rw [List.length_map]; (first | lia | omega)), ⟨_, CmpS.geI _ _, ?_⟩⟩))))))))
  try dsimp only
  split
  · rename_i h
    have h : ws.length ≤ at_ := by simp at h; (first | lia | omega)
    exact SWs.consK (SW.raise_ rfl C.o_NoNote ⟨rfl, List.getElem?_eq_none h⟩)
  · rename_i h
    have h : at_ < ws.length := by simp at h; (first | lia | omega)
    have e : ws[at_]? = some ws[at_] := List.getElem?_eq_getElem h
    refine SWs.nil ?_
    exact SWs.consK (SW.retK (EW.subK (EW.name 0 rfl rfl (EW.name 1 rfl rfl (⟨_, SubS.list (by (first | lia | omega)) (by (first | lia | omega)) (d := .str ws[at_]) (by rw [Int.toNat_natCast, List.getElem?_map, e]; rfl), ⟨_, e, rfl⟩⟩)))))
theorem signsD_eq (x : Str) : signsD x = (signs x).map .str := by unfold signsD signs; rw [List.map_map]; rfl
theorem name_at_spec (C : Cx B) (n : Nat) {ws : List Str} {at_ : Nat} (hl : ws.length < 2 ^ 60) (hw : ∀ w ∈ ws, w.length < 2 ^ 60) :
    Spec B "name_at" (NN (NamNo ws at_)) (n + 2) [.ct (.lst (ws.map .str)), .im (.int at_)] (NamIs ws at_) := by
  refine Spec.of_body (F := F_name_at) C.f_name_at rfl (by decide) rfl ?_
  have hq := C.quiet
  obtain ⟨vM, m1, m2⟩ := c_MOST_LETTERS C.kin
  obtain ⟨vL, l1, l2⟩ := c_LETTERS C.kin
  refine SWs.consK (SW.assignK 2 rfl (by decide) (by decide) (EW.callK rfl (LW.consK (EW.name 0 rfl rfl (LW.consK (EW.name 1 rfl rfl (LW.nil ?_))))) C.f_word_at.some))
  refine (word_at_spec C n hl).mono (Nat.le_refl _) ?_ (fun c x => ⟨x.1, fun ⟨w, e, _⟩ => by rw [x.2] at e; cases e⟩)
  rintro _ ⟨w, hwe, rfl⟩
  refine ⟨_, rfl, ?_⟩
  have hwl := hw w (List.mem_of_getElem? hwe)
  have bad : nameW w = false → NN (NamNo ws at_) "NoNote" := fun h => ⟨rfl, fun ⟨w', e, e'⟩ => by rw [hwe] at e; cases e; rw [h] at e'; cases e'⟩
  refine SWs.consK (SW.ife (TW.not (TW.mono (Q := fun b => b = (decide (1 ≤ w.length) && decide (w.length ≤ 8))) (TW.chain2 (EW.cint (EW.bcallK rfl C.b_len bb_len trivial (LW.consK (EW.name 2 rfl rfl (LW.nil (⟨_, BuiS.lenS (by (first | lia | omega)), ⟨_, CmpS.leI _ _, ?_⟩⟩))))))) ?_)))
  · try dsimp only
    split
    · rename_i h
      have h : 1 ≤ w.length := by simp at h; (first | lia | omega)
      refine EW.glob rfl m1 m2 (⟨_, CmpS.leI _ _, ?_⟩)
      show decide ((w.length : Int) ≤ 8) = _
      rw [decide_eq_true h, Bool.true_and]
      exact decide_eq_decide.mpr (by (first | lia | omega))
    · rename_i h
      have h : ¬ 1 ≤ w.length := by simp at h; (first | lia | omega)
      rw [decide_eq_false h]; rfl
  rintro _ rfl
  cases hlen : (decide (1 ≤ w.length) && decide (w.length ≤ 8)) with
  | false => exact ifT (SWs.consK (SW.raise_ rfl C.o_NoNote (bad (by unfold nameW; rw [hlen]; rfl))))
  | true =>
    refine ifF (SWs.nil ?_)
    refine SWs.consK (SW.forK (EW.name 2 rfl rfl (⟨_, IterS.str,
      NamI ws at_ w, ?_, ?_, ?_⟩)))
    · exact ⟨signs w, none, signsD_eq w, rfl, rfl⟩
    · rintro d rest ρ' ⟨r, x, e1, e2, rfl⟩
      cases r with
      | nil => cases e1
      | cons c r =>
        cases e1
        refine AsW.name 3 rfl (by decide) (by decide) ?_
        refine SWs.consK (SW.ife (TW.cmpK (EW.name 3 rfl rfl (EW.glob rfl l1 l2 (⟨_, CmpS.notInS _ _, ?_⟩)))))
        rw [List.all_cons] at e2
        cases hc : Txt.contains lettersL c with
        | false =>
          refine ifTd (by show (!Txt.contains lettersL c) = true; rw [hc]; rfl) (SWs.consK (SW.raise_ rfl C.o_NoNote (bad ?_)))
          unfold nameW; rw [hlen, e2, hc]; rfl
        | true =>
          refine ifFd (by show (!Txt.contains lettersL c) = false; rw [hc]; rfl) (SWs.nil (SWs.nil ⟨r, _, rfl, ?_, rfl⟩))
          rw [e2, hc]; rfl
    · rintro ρ' ⟨r, x, e1, e2, rfl⟩
      have : r = [] := by cases r with | nil => rfl | cons p r => cases e1
      subst this
      refine SWs.nil ?_
      refine SWs.consK (SW.retK (EW.name 2 rfl rfl ⟨w, hwe, ?_, rfl⟩))
      unfold nameW; rw [hlen, e2]; rfl
theorem number_at_spec (C : Cx B) (n : Nat) {ws : List Str} {at_ : Nat} (hl : ws.length < 2 ^ 60) (hw : ∀ w ∈ ws, w.length < 2 ^ 20) :
    Spec B "number_at" (NN (NumNo ws at_)) (n + 2) [.ct (.lst (ws.map .str)), .im (.int at_)] (NumIs ws at_) := by
  refine Spec.of_body (F := F_number_at) C.f_number_at rfl (by decide) rfl ?_
  have hq := C.quiet
  obtain ⟨vM, m1, m2⟩ := c_MOST_FIGURES C.kin
  obtain ⟨vL, l1, l2⟩ := c_FIGURES C.kin
  refine SWs.consK (SW.assignK 2 rfl (by decide) (by decide) (EW.callK rfl (LW.consK (EW.name 0 rfl rfl (LW.consK (EW.name 1 rfl rfl (LW.nil ?_))))) C.f_word_at.some))
  refine (word_at_spec C n hl).mono (Nat.le_refl _) ?_ (fun c x => ⟨x.1, fun ⟨w, _, e, _⟩ => by rw [x.2] at e; cases e⟩)
  rintro _ ⟨w, hwe, rfl⟩
  refine ⟨_, rfl, ?_⟩
  have hwl := hw w (List.mem_of_getElem? hwe)
  have hwz : w.length ≤ sizeLine := Nat.le_trans (Nat.le_of_lt hwl) (by decide)
  have bad : okNum w = false → NN (NumNo ws at_) "NoNote" := fun h => ⟨rfl, fun ⟨w', i, e, e'⟩ => by rw [hwe] at e; cases e; unfold numW at e'; rw [h] at e'; cases e'⟩
  refine SWs.consK (SW.mono (Q := fun fl ρ' => fl = .next ∧ ρ' = [some (.fz (.lst (ws.map .str))), some (.im (.int at_)), some (.im (.str w)), some (.im (.str (figs w))), none]) (SW.assignK 3 rfl (by decide) (by decide) (EW.ife (TW.cmpK (EW.sliceK (EW.name 2 rfl rfl (PW.none (PW.someK (EW.cint (⟨_, rfl, ⟨_, SlcS.str hwz, EW.cstr (⟨_, CmpS.eqS _ _, ?_⟩)⟩⟩))))))))) ?_)
  · try dsimp only
    split
    · rename_i h
      refine EW.sliceK (EW.name 2 rfl rfl (PW.someK (EW.cint (⟨_, rfl, PW.none (⟨_, SlcS.str hwz, ⟨_, rfl, ⟨rfl, ?_⟩⟩⟩)⟩))))
      unfold figs; rw [if_pos h]; rfl
    · rename_i h
      refine EW.name 2 rfl rfl (⟨_, rfl, ⟨rfl, ?_⟩⟩)
      unfold figs; rw [if_neg h]; rfl
  rintro fl ρ' ⟨rfl, rfl⟩
  have hfl : (figs w).length ≤ w.length := by
    unfold figs; split
    · exact Txt.slice_le w _ _
    · exact Nat.le_refl _
  generalize hbad : (!(decide (1 ≤ (figs w).length) && decide ((figs w).length ≤ 60)) || (w == "-0") || ((figs w).cps[0]? == some 48 && decide (1 < (figs w).length))) = b
  have hok : okNum w = (!b && (signs (figs w)).all fun c => Txt.contains figuresL c) := by
    rw [← hbad]; unfold okNum; simp only [Bool.not_or, Bool.not_not]
  refine SWs.consK (SW.ife (TW.mono (Q := fun c => c = b) (TW.bool (AW.orCons (TW.not (TW.mono (Q := fun c => c = (decide (1 ≤ (figs w).length) && decide ((figs w).length ≤ 60))) (TW.chain2 (EW.cint (EW.bcallK rfl C.b_len bb_len trivial (LW.consK (EW.name 3 rfl rfl (LW.nil (⟨_, BuiS.lenS (by (first | lia | omega)), ⟨_, CmpS.leI _ _, ?_⟩⟩))))))) ?_)))) ?_))
  · try dsimp only
    split
    · rename_i h
      have h : 1 ≤ (figs w).length := by simp at h; (first | lia | omega)
      refine EW.glob rfl m1 m2 (⟨_, CmpS.leI _ _, ?_⟩)
      show decide (((figs w).length : Int) ≤ 60) = _
      rw [decide_eq_true h, Bool.true_and]
      exact decide_eq_decide.mpr (by (first | lia | omega))
    · rename_i h
      have h : ¬ 1 ≤ (figs w).length := by simp at h; (first | lia | omega)
      rw [decide_eq_false h]; rfl
  · rintro _ rfl
    cases hlen : (decide (1 ≤ (figs w).length) && decide ((figs w).length ≤ 60)) with
    | false => rw [hlen] at hbad; exact ifT (by rw [← hbad]; rfl)
    | true =>
      rw [hlen] at hbad
      refine ifF (AW.orCons (TW.cmpK (EW.name 2 rfl rfl (EW.cstr (⟨_, CmpS.eqS _ _, ?_⟩)))))
      have h1 : 1 ≤ (figs w).length := by simp at hlen; exact hlen.1
      obtain ⟨c0, hc0⟩ : ∃ c, (figs w).cps[0]? = some c := ⟨(figs w).cps[0]'h1, Array.getElem?_eq_getElem h1⟩
      have hz : ((⟨#[c0]⟩ : Str) == "0") = (c0 == 48) := by
        have e : ("0" : Str) = ⟨#[48]⟩ := by decide +kernel
        rw [e]
        by_cases q : c0 = 48
        · subst q; simp
        · have : (⟨#[c0]⟩ : Str) ≠ ⟨#[48]⟩ := fun e => by cases e; exact q rfl
          rw [beq_eq_false_iff_ne.mpr this, beq_eq_false_iff_ne.mpr q]
      rw [hc0] at hbad
      cases hz0 : (w == "-0") with
      | true => rw [hz0] at hbad; exact ifT (by rw [← hbad]; rfl)
      | false =>
        rw [hz0] at hbad
        refine ifF (AW.orCons (TW.bool (AW.andCons (TW.cmpK (EW.subK (EW.name 3 rfl rfl (EW.cint (⟨_, SubS.str (c := c0) (j := 0) (by decide) (by decide) (seqIndex_pos (by decide) (by (first | lia | omega))) hc0, EW.cstr (⟨_, CmpS.eqS _ _, ?_⟩)⟩))))))))
        rw [hz]
        cases hc : (c0 == 48) with
        | false => exact ifF (ifF (AW.orNil (by rw [← hbad]; simp [hc])))
        | true =>
          refine ifT (AW.andCons (TW.cmpK (EW.bcallK rfl C.b_len bb_len trivial (LW.consK (EW.name 3 rfl rfl (LW.nil (⟨_, BuiS.lenS (by (first | lia | omega)), EW.cint (⟨_, CmpS.gtI _ _, ?_⟩)⟩)))))))
          have hcc : (some c0 == some 48) = true := by simpa using hc
          try dsimp only
          split
          · rename_i h
            have h : 1 < (figs w).length := by simp at h; (first | lia | omega)
            exact AW.andNil (ifT (by rw [← hbad]; simp [hcc, h]))
          · rename_i h
            have h : ¬ 1 < (figs w).length := by simp at h; (first | lia | omega)
            exact ifF (AW.orNil (by rw [← hbad]; simp [h]))
  intro c hcb
  subst hcb
  cases c with
  | true => exact ifT (SWs.consK (SW.raise_ rfl C.o_NoNote (bad (by rw [hok]; rfl))))
  | false =>
    refine ifF (SWs.nil ?_)
    refine SWs.consK (SW.forK (EW.name 3 rfl rfl (⟨_, IterS.str,
      NumI ws at_ w, ?_, ?_, ?_⟩)))
    · exact ⟨signs (figs w), none, signsD_eq _, rfl, rfl⟩
    · rintro d rest ρ' ⟨r, x, e1, e2, rfl⟩
      cases r with
      | nil => cases e1
      | cons c r =>
        cases e1
        refine AsW.name 4 rfl (by decide) (by decide) ?_
        refine SWs.consK (SW.ife (TW.cmpK (EW.name 4 rfl rfl (EW.glob rfl l1 l2 (⟨_, CmpS.notInS _ _, ?_⟩)))))
        rw [List.all_cons] at e2
        cases hc : Txt.contains figuresL c with
        | false =>
          refine ifTd (by show (!Txt.contains figuresL c) = true; rw [hc]; rfl) (SWs.consK (SW.raise_ rfl C.o_NoNote (bad ?_)))
          rw [hok, e2, hc]; rfl
        | true =>
          refine ifFd (by show (!Txt.contains figuresL c) = false; rw [hc]; rfl) (SWs.nil (SWs.nil ⟨r, _, rfl, ?_, rfl⟩))
          rw [e2, hc]; rfl
    · rintro ρ' ⟨r, x, e1, e2, rfl⟩
      have : r = [] := by cases r with | nil => rfl | cons p r => cases e1
      subst this
      have hokw : okNum w = true := by rw [hok, e2]; rfl
      obtain ⟨i, hi⟩ := num_text hokw
      refine SWs.nil ?_
      refine SWs.consK (SW.retK (EW.bcallK rfl C.b_int bb_int trivial (LW.consK (EW.name 2 rfl rfl (LW.nil (⟨_, BuiS.intS ?_ hi, ⟨w, i, hwe, ?_, rfl⟩⟩))))))
      · have := num_len hokw; (first | lia | omega)
      · unfold numW; rw [hokw]; exact hi
theorem no_num {ws : List Str} {k : Nat} (h : ¬ ∃ w i, ws[k]? = some w ∧ numW w = some i) : ws.drop k = [] ∨ ∃ w, ws.drop k = w :: ws.drop (k + 1) ∧ rd.num w = none := by
  cases e : ws[k]? with
  | none => exact .inl (drop_none e)
  | some w =>
    refine .inr ⟨w, drop_get e, ?_⟩
    show numW w = none
    cases hn : numW w with
    | none => rfl
    | some i => exact absurd ⟨w, i, e, hn⟩ h
theorem no_name {ws : List Str} {k : Nat} (h : ¬ ∃ w, ws[k]? = some w ∧ nameW w = true) : ws.drop k = [] ∨ ∃ w, ws.drop k = w :: ws.drop (k + 1) ∧ rd.name w = false := by
  cases e : ws[k]? with
  | none => exact .inl (drop_none e)
  | some w =>
    refine .inr ⟨w, drop_get e, ?_⟩
    show nameW w = false
    cases hn : nameW w with
    | false => rfl
    | true => exact absurd ⟨w, e, hn⟩ h
theorem sum_at_spec (C : Cx B) (n : Nat) {ws : List Str} {at_ : Nat} (hl : ws.length < 2 ^ 20) (hw : ∀ w ∈ ws, w.length < 2 ^ 20) :
    Spec B "sum_at" (NN (SumNo ws at_)) (n + 3) [.ct (.lst (ws.map .str)), .im (.int at_)] (SumIs ws at_) := by
  refine Spec.of_body (F := F_sum_at) C.f_sum_at rfl (by decide) rfl ?_
  have hq := C.quiet
  have hl60 : ws.length < 2 ^ 60 := Nat.lt_trans hl (by decide)
  have hw60 : ∀ w ∈ ws, w.length < 2 ^ 60 := fun w h => Nat.lt_trans (hw w h) (by decide)
  have hsz : sizeLine = 16777216 := by decide
  -- number = number_at(words, at)
  refine SWs.consK (SW.assignK 2 rfl (by decide) (by decide) (EW.callK rfl (LW.consK (EW.name 0 rfl rfl (LW.consK (EW.name 1 rfl rfl (LW.nil ?_))))) C.f_number_at.some))
  refine (number_at_spec C n hl60 hw).mono (Nat.le_refl _) ?_ (fun c x => ⟨x.1, ?_⟩)
  rotate_left
  · show pSum rd (ws.drop at_) = none
    rcases no_num x.2 with e | ⟨w, e, h⟩
    · rw [e]; exact pSum_nil rd
    · rw [e]; exact pSum_no rd _ h
  rintro _ ⟨w0, k, hw0, hk, rfl⟩
  refine ⟨_, rfl, ?_⟩
  have hS : pSum rd (ws.drop at_) = (pParts rd [] (ws.drop (at_ + 1))).map fun q => ((k, q.1), q.2) := by rw [drop_get hw0]; exact pSum_k rd _ _ hk
  -- at = at + 1
  refine SWs.consK (SW.assignK 1 rfl (by decide) (by decide) (EW.binK (EW.name 1 rfl rfl (EW.cint (⟨_, BinS.add _ _, ⟨_, rfl, ?_⟩⟩)))))
  -- parts = []
  refine SWs.consK (SW.assignK 3 rfl (by decide) (by decide) (EW.listK (LW.nil (⟨_, .nil, (show 0 ≤ sizeLine by decide), ⟨_, rfl, ?_⟩⟩))))
  -- while word_at(words, at) != ';':
  refine SWs.consK (SW.whileK (SumI ws at_ k) (ws.length - (at_ + 1)) ?_ ?_)
  · exact ⟨at_ + 1, [], none, none, rfl, Nat.lt_succ_self _, Nat.zero_le _, rfl, rfl⟩
  rintro m ρ' ⟨a, acc, x, y, e1, e2, e3, e4, rfl⟩
  refine TW.cmpK (EW.callK rfl (LW.consK (EW.name 0 rfl rfl (LW.consK (EW.name 1 rfl rfl (LW.nil ?_))))) C.f_word_at.some)
  refine (word_at_spec C (n + 1) hl60).mono (Nat.le_refl _) ?_ (fun c x => ⟨x.1, ?_⟩)
  rotate_left
  · show pSum rd (ws.drop at_) = none
    rw [hS, e4, drop_none x.2, pParts_nil]; rfl
  rintro _ ⟨w, hwe, rfl⟩
  have ha := get_lt hwe
  refine EW.cstr (⟨_, CmpS.neS _ _, ?_⟩)
  cases he : isEnd w with
  | true =>
    have he' : (w == ";") = true := he
    refine ifFd (by show (!(w == ";")) = false; rw [he']; rfl) (SWs.nil ?_)
    refine SWs.consK (SW.retK (EW.tupleK (LW.consK (EW.tupleK (LW.consK (EW.name 2 rfl rfl (LW.consK (EW.bcallK rfl C.b_tuple bb_tuple trivial (LW.consK (EW.name 3 rfl rfl (LW.nil (⟨_, BuiS.tupleL ?_, LW.nil (⟨_, .cons (.cons .nil), (show 2 ≤ sizeLine by decide), LW.consK (EW.binK (EW.name 1 rfl rfl (EW.cint (⟨_, BinS.add _ _, LW.nil (⟨_, .cons (.cons .nil), (show 2 ≤ sizeLine by decide), ?_⟩)⟩))))⟩)⟩))))))))))))
    · rw [List.length_map]; (first | lia | omega)
    · exact ⟨k, acc, a + 1, by (first | lia | omega), by (first | lia | omega), by rw [hS, e4, drop_get hwe, pParts_end rd _ _ _ he]; rfl, rfl⟩
  | false =>
    have he' : (w == ";") = false := he
    refine ifTd (by show (!(w == ";")) = true; rw [he']; rfl) ?_
    -- part = number_at(words, at)
    refine SWs.consK (SW.assignK 4 rfl (by decide) (by decide) (EW.callK rfl (LW.consK (EW.name 0 rfl rfl (LW.consK (EW.name 1 rfl rfl (LW.nil ?_))))) C.f_number_at.some))
    refine (number_at_spec C n hl60 hw).mono (Nat.le_refl _) ?_ (fun c x => ⟨x.1, ?_⟩)
    rotate_left
    · show pSum rd (ws.drop at_) = none
      rw [hS, e4]
      rcases no_num x.2 with e | ⟨w', e, h⟩
      · rw [e, pParts_nil]; rfl
      · rw [drop_get hwe] at e ⊢
        cases e
        rw [pParts_no rd acc _ he h]; rfl
    rintro _ ⟨w', i, hw', hi, rfl⟩
    have : w' = w := by rw [hwe] at hw'; cases hw'; rfl
    subst this
    refine ⟨_, rfl, ?_⟩
    -- name = name_at(words, at + 1)
    refine SWs.consK (SW.assignK 5 rfl (by decide) (by decide) (EW.callK rfl (LW.consK (EW.name 0 rfl rfl (LW.consK (EW.binK (EW.name 1 rfl rfl (EW.cint (⟨_, BinS.add _ _, LW.nil ?_⟩))))))) C.f_name_at.some))
    refine (name_at_spec C n (at_ := a + 1) hl60 hw60).mono (Nat.le_refl _) ?_ (fun c x => ⟨x.1, ?_⟩)
    rotate_left
    · show pSum rd (ws.drop at_) = none
      rw [hS, e4, drop_get hwe]
      rcases no_name x.2 with e | ⟨nm, e, h⟩
      · rw [e, pParts_one rd acc he]; rfl
      · rw [e, pParts_bad rd acc _ he hi (by rw [h]; simp)]; rfl
    rintro _ ⟨nm, hnm, hnw, rfl⟩
    have ha1 := get_lt hnm
    refine ⟨_, rfl, ?_⟩
    -- if part == 0 or (parts != [] and parts[-1][0] >= name):
    refine SWs.consK (SW.ife (TW.mono (Q := fun b => b = (i == 0 || !lastLt acc nm)) (TW.bool (AW.orCons (TW.cmpK (EW.name 4 rfl rfl (EW.cint (⟨_, CmpS.eqI _ _, ?_⟩)))))) ?_))
    · cases hz : (i == 0) with
      | true => exact ifT rfl
      | false =>
        refine ifF (AW.orCons (TW.bool (AW.andCons (TW.cmpK (EW.name 3 rfl rfl (EW.listK (LW.nil (⟨_, .nil, (show 0 ≤ sizeLine by decide), ⟨_, CmpS.neNil, ?_⟩⟩))))))))
        cases hg : acc.getLast? with
        | none =>
          have : acc = [] := List.getLast?_eq_none_iff.mp hg
          subst this
          exact ifF (ifF (AW.orNil rfl))
        | some p =>
          have hne : (!(acc.map pD).isEmpty) = true := by
            cases acc with
            | nil => cases hg
            | cons q acc => rfl
          refine ifTd hne (AW.andCons (TW.cmpK (EW.subK (EW.subK (EW.name 3 rfl rfl (EW.unK (EW.cint (⟨_, UnS.neg _, ⟨_, SubS.last (d := pD p) ?_, EW.cint (⟨_, SubS.tup (j := 0) (by decide) (by decide) rfl rfl, EW.name 5 rfl rfl (⟨_, CmpS.geS _ _, ?_⟩)⟩)⟩⟩))))))))
          · rw [List.getLast?_map, hg]; rfl
          have hlt : lastLt acc nm = !sle nm p.1 := by unfold lastLt; rw [hg]
          rw [hlt]
          cases hs : sle nm p.1 with
          | true => exact ifT (AW.andNil (ifT rfl))
          | false => exact ifF (ifF (AW.orNil rfl))
    rintro _ rfl
    cases hb : (i == 0 || !lastLt acc nm) with
    | true =>
      refine ifT (SWs.consK (SW.raise_ rfl C.o_NoNote ⟨rfl, ?_⟩))
      show pSum rd (ws.drop at_) = none
      rw [hS, e4, drop_get hwe, drop_get hnm, pParts_bad rd acc _ he hi ?_]; rfl
      cases hz : (i == 0) with
      | true => have : (i != 0) = false := by rw [bne, hz]; rfl
                rw [this]; rfl
      | false =>
        rw [hz] at hb
        have : lastLt acc nm = false := by simpa using hb
        rw [this]; simp
    | false =>
      have hz : (i == 0) = false := by cases hz : (i == 0) with | true => rw [hz] at hb; simp at hb | false => rfl
      have hlt : lastLt acc nm = true := by rw [hz] at hb; simpa using hb
      refine ifF (SWs.nil ?_)
      -- parts.append((name, part))
      refine SWs.consK (SW.appendK 3 rfl rfl (EW.tupleK (LW.consK (EW.name 5 rfl rfl (LW.consK (EW.name 4 rfl rfl (LW.nil (⟨_, .cons (.cons .nil), (show 2 ≤ sizeLine by decide), ⟨_, rfl, ?_, ?_⟩⟩))))))))
      · rw [List.length_map]; (first | lia | omega)
      -- at = at + 2
      refine SWs.consK (SW.assignK 1 rfl (by decide) (by decide) (EW.binK (EW.name 1 rfl rfl (EW.cint (⟨_, BinS.add _ _, ⟨_, rfl, ?_⟩⟩)))))
      refine SWs.nil ⟨ws.length - (a + 2), by (first | lia | omega), a + 2, acc ++ [(nm, i)], some (.im (.int i)), some (.im (.str nm)), rfl, by (first | lia | omega), by simp; (first | lia | omega), ?_, ?_⟩
      · rw [e4, drop_get hwe, drop_get hnm, pParts_next rd acc w' nm _ he hi (by
          have : (i != 0) = true := by rw [bne, hz]; rfl
          rw [this, show rd.name nm = true from hnw, hlt]; rfl)]
      · rw [List.map_append]; rfl
end Mine
end

section
open PySem PySem.W PyProof.Rows PySem.Calls PyProof
set_option Elab.async false
set_option maxHeartbeats 1600000
set_option maxRecDepth 100000
set_option linter.unusedVariables false
namespace Mine
variable {B : Bs}
noncomputable abbrev StNo (ws : List Str) (f a : Nat) : Prop := parse rd f (ws.drop a) = none
noncomputable def StIs (ws : List Str) (f a : Nat) (q : Rs) : Prop := ∃ s at', a < at' ∧ at' ≤ ws.length ∧ parse rd f (ws.drop a) = some (s, ws.drop at') ∧ q = .im (.tup [s.d, .int (at' : Nat)])
noncomputable abbrev CoNo (ws : List Str) (f a : Nat) : Prop := pConn rd (parse rd f) (ws.drop a) = none
noncomputable def CoIs (ws : List Str) (f a : Nat) (q : Rs) : Prop := ∃ l at', a < at' ∧ at' ≤ ws.length ∧ pConn rd (parse rd f) (ws.drop a) = some (l, ws.drop at') ∧ q = .im (.tup [.tup l.ds, .int (at' : Nat)])
noncomputable def CoI (ws : List Str) (f at_ deep : Nat) (m : Int) (j : Nat) (ρ' : List (Option Sl)) : Prop := ∃ (a : Nat) (acc : List St) (x : Option Sl), acc.length + j = m.toNat ∧ at_ < a ∧ a ≤ ws.length ∧ acc.length ≤ a ∧
  pConn rd (parse rd f) (ws.drop at_) = (pMany (parse rd f) j (ws.drop a)).map (fun q => (preS acc q.1, q.2)) ∧
  ρ' = [some (.fz (.lst (ws.map .str))), some (.im (.int (a : Nat))), some (.im (.int deep)), some (.im (.int m)), some (.own (.lst (acc.map St.d))), x]
noncomputable def StAt (B : Bs) (ws : List Str) (f n deep : Nat) : Prop := ∀ at_ : Nat,
  Spec B "statement_at" (NN (StNo ws f at_)) n [.ct (.lst (ws.map .str)), .im (.int at_), .im (.int deep)] (StIs ws f at_)
theorem parts_at_spec (C : Cx B) (n f : Nat) {ws : List Str} {deep : Nat} (hl : ws.length < 2 ^ 20) (hw : ∀ w ∈ ws, w.length < 2 ^ 20) (ih : StAt B ws f (n + 2) deep) {at_ : Nat} :
    Spec B "parts_at" (NN (CoNo ws f at_)) (n + 3) [.ct (.lst (ws.map .str)), .im (.int at_), .im (.int deep)] (CoIs ws f at_) := by
  refine Spec.of_body (F := F_parts_at) C.f_parts_at rfl (by decide) rfl ?_
  have hq := C.quiet
  have hl60 : ws.length < 2 ^ 60 := Nat.lt_trans hl (by decide)
  have hsz : sizeLine = 16777216 := by decide
  -- many = number_at(words, at)
  refine SWs.consK (SW.assignK 3 rfl (by decide) (by decide) (EW.callK rfl (LW.consK (EW.name 0 rfl rfl (LW.consK (EW.name 1 rfl rfl (LW.nil ?_))))) C.f_number_at.some))
  refine (number_at_spec C n hl60 hw).mono (Nat.le_refl _) ?_ (fun c x => ⟨x.1, ?_⟩)
  rotate_left
  · rw [CoNo]
    rcases no_num x.2 with e | ⟨w, e, h⟩
    · rw [e]; rfl
    · rw [e]; exact pConn_no rd _ _ h
  rintro _ ⟨w0, m, hw0, hm, rfl⟩
  have ha0 := get_lt hw0
  refine ⟨_, rfl, ?_⟩
  -- if many < 0:
  refine SWs.consK (SW.ife (TW.cmpK (EW.name 3 rfl rfl (EW.cint (⟨_, CmpS.ltI _ _, ?_⟩)))))
  try dsimp only
  split
  · rename_i h
    exact SWs.consK (SW.raise_ rfl C.o_NoNote ⟨rfl, by rw [CoNo, drop_get hw0]; exact pConn_neg rd _ _ hm (of_decide_eq_true h)⟩)
  rename_i h
  have hm0 : ¬ m < 0 := fun q => h (decide_eq_true q)
  have hS : pConn rd (parse rd f) (ws.drop at_) = pMany (parse rd f) m.toNat (ws.drop (at_ + 1)) := by rw [drop_get hw0]; exact pConn_k rd _ _ hm hm0
  refine SWs.nil ?_
  -- at = at + 1
  refine SWs.consK (SW.assignK 1 rfl (by decide) (by decide) (EW.binK (EW.name 1 rfl rfl (EW.cint (⟨_, BinS.add _ _, ⟨_, rfl, ?_⟩⟩)))))
  -- parts = []
  refine SWs.consK (SW.assignK 4 rfl (by decide) (by decide) (EW.listK (LW.nil (⟨_, .nil, (show 0 ≤ sizeLine by decide), ⟨_, rfl, ?_⟩⟩))))
  -- while len(parts) < many:
  refine SWs.consK (SW.whileK (CoI ws f at_ deep m) m.toNat ?_ ?_)
  · refine ⟨at_ + 1, [], none, by simp, Nat.lt_succ_self _, ha0, Nat.zero_le _, ?_, rfl⟩
    rw [hS]
    cases pMany (parse rd f) m.toNat (ws.drop (at_ + 1)) with
    | none => rfl
    | some q => rfl
  rintro j ρ' ⟨a, acc, x, e1, e2, e3, e4, e5, rfl⟩
  refine TW.cmpK (EW.bcallK rfl C.b_len bb_len trivial (LW.consK (EW.name 4 rfl rfl (LW.nil (⟨_, BuiS.lenL (by rw [List.length_map]; (first | lia | omega)), EW.name 3 rfl rfl (⟨_, CmpS.ltI _ _, ?_⟩)⟩)))))
  rw [List.length_map]
  cases j with
  | zero =>
    refine ifFd (decide_eq_false (by (first | lia | omega))) (SWs.nil ?_)
    refine SWs.consK (SW.retK (EW.tupleK (LW.consK (EW.bcallK rfl C.b_tuple bb_tuple trivial (LW.consK (EW.name 4 rfl rfl (LW.nil (⟨_, BuiS.tupleL (by rw [List.length_map]; (first | lia | omega)), LW.consK (EW.name 1 rfl rfl (LW.nil (⟨_, .cons (.cons .nil), (show 2 ≤ sizeLine by decide), ?_⟩)))⟩))))))))
    refine ⟨preS acc .nil, a, e2, e3, by rw [e5]; rfl, ?_⟩
    rw [preS_ds, show Sts.nil.ds = [] from rfl, List.append_nil]
  | succ j =>
    refine ifTd (decide_eq_true (by (first | lia | omega))) ?_
    -- part, at = statement_at(words, at, deep)
    refine SWs.consK (SW.assignTK (EW.callK rfl (LW.consK (EW.name 0 rfl rfl (LW.consK (EW.name 1 rfl rfl (LW.consK (EW.name 2 rfl rfl (LW.nil ?_))))))) C.f_statement_at.some))
    refine (ih a).mono (Nat.le_refl _) ?_ (fun c x => ⟨x.1, ?_⟩)
    rotate_left
    · rw [CoNo, e5, pMany_no _ j x.2]; rfl
    rintro _ ⟨s, a', h1, h2, h3, rfl⟩
    refine ⟨_, rfl, AsW.two 5 1 rfl rfl (by decide) (by decide) (by decide) (by decide) ?_⟩
    -- parts.append(part)
    refine SWs.consK (SW.appendK 4 rfl rfl (EW.name 5 rfl rfl (⟨_, rfl, (by rw [List.length_map]; (first | lia | omega)), ?_⟩)))
    refine SWs.nil ⟨j, Nat.lt_succ_self _, a', acc ++ [s], some (.im s.d), by simp; (first | lia | omega), by (first | lia | omega), h2, by simp; (first | lia | omega), ?_, ?_⟩
    · rw [e5, pMany_k _ j h3, map_pre]
    · rw [List.map_append]; rfl
theorem statement_at_spec (C : Cx B) {ws : List Str} (hl : ws.length < 2 ^ 20) (hw : ∀ w ∈ ws, w.length < 2 ^ 20) : ∀ (f n deep : Nat), deep + f = 41 → StAt B ws f (n + 2 * f + 4) deep
  | 0, n, deep, hd, at_ => by
    refine Spec.of_body (F := F_statement_at) C.f_statement_at rfl (by decide) rfl ?_
    have hq := C.quiet
    obtain ⟨vM, m1, m2⟩ := c_MOST_WITHIN C.kin
    refine SWs.consK (SW.ife (TW.cmpK (EW.name 2 rfl rfl (EW.glob rfl m1 m2 (⟨_, CmpS.gtI _ _, ifTd (decide_eq_true (by (first | lia | omega))) ?_⟩)))))
    exact SWs.consK (SW.raise_ rfl C.o_NoNote ⟨rfl, rfl⟩)
  | f + 1, n, deep, hd, at_ => by
    have ih := statement_at_spec C hl hw f n (deep + 1) (by (first | lia | omega))
    refine Spec.of_body (F := F_statement_at) C.f_statement_at rfl (by decide) rfl ?_
    have hq := C.quiet
    have hl60 : ws.length < 2 ^ 60 := Nat.lt_trans hl (by decide)
    have hw60 : ∀ w ∈ ws, w.length < 2 ^ 60 := fun w h => Nat.lt_trans (hw w h) (by decide)
    have hn1 : n + 2 * (f + 1) + 3 = (n + 2 * f + 4) + 1 := by (first | lia | omega)
    show SWs B F_statement_at _ (n + 2 * (f + 1) + 3) _ _ _
    rw [hn1]
    obtain ⟨vM, m1, m2⟩ := c_MOST_WITHIN C.kin
    -- if deep > MOST_WITHIN:
    refine SWs.consK (SW.ife (TW.cmpK (EW.name 2 rfl rfl (EW.glob rfl m1 m2 (⟨_, CmpS.gtI _ _, ifFd (decide_eq_false (by (first | lia | omega))) (SWs.nil ?_)⟩)))))
    -- kind = word_at(words, at)
    refine SWs.consK (SW.assignK 3 rfl (by decide) (by decide) (EW.callK rfl (LW.consK (EW.name 0 rfl rfl (LW.consK (EW.name 1 rfl rfl (LW.nil ?_))))) C.f_word_at.some))
    refine (word_at_spec C (n + 2 * f + 4) hl60).mono (Nat.le_refl _) ?_ (fun c x => ⟨x.1, by rw [StNo, drop_none x.2]; rfl⟩)
    rintro _ ⟨kind, hwe, rfl⟩
    have ha := get_lt hwe
    refine ⟨_, rfl, ?_⟩
    have hP : parse rd (f + 1) (ws.drop at_) = pBody rd (parse rd f) (ws.drop (at_ + 1)) (kn kind) := by rw [drop_get hwe]; exact parse_k rd f kind _ rfl
    cases hk : kn kind with
    | above =>
      have T := knT_of hk
      have hkw : kind = "above" := kn_word hk (by decide)
      have t1 : (kind == "above") = true := T.above
      refine SWs.consK (SW.ife (TW.bool (AW.orCons (TW.cmpK (EW.name 3 rfl rfl (EW.cstr (⟨_, CmpS.eqS _ _, ifTd t1 (ifT ?_)⟩)))))))
      refine SWs.consK (SW.assignTK (EW.callK rfl (LW.consK (EW.name 0 rfl rfl (LW.consK (EW.binK (EW.name 1 rfl rfl (EW.cint (⟨_, BinS.add _ _, LW.nil ?_⟩))))))) C.f_sum_at.some))
      refine (sum_at_spec C (n + 2 * f + 2) (at_ := at_ + 1) hl hw).mono (Nat.le_refl _) ?_ (fun c x => ⟨x.1, by rw [StNo, hP, hk, pBody, x.2]; rfl⟩)
      rintro _ ⟨k, ps, a', h1, h2, h3, rfl⟩
      refine ⟨_, rfl, AsW.two 4 1 rfl rfl (by decide) (by decide) (by decide) (by decide) ?_⟩
      refine SWs.consK (SW.retK (EW.tupleK (LW.consK (EW.tupleK (LW.consK (EW.name 3 rfl rfl (LW.consK (EW.name 4 rfl rfl (LW.nil (⟨_, .cons (.cons .nil), (show 2 ≤ sizeLine by decide), LW.consK (EW.name 1 rfl rfl (LW.nil (⟨_, .cons (.cons .nil), (show 2 ≤ sizeLine by decide), ?_⟩)))⟩))))))))))
      exact ⟨.above k ps, a', by (first | lia | omega), h2, by rw [hP, hk, pBody, h3]; rfl, by rw [hkw]; rfl⟩
    | nought =>
      have T := knT_of hk
      have hkw : kind = "nought" := kn_word hk (by decide)
      have t1 : (kind == "above") = false := T.above
      have t2 : (kind == "nought") = true := T.nought
      refine SWs.consK (SW.ife (TW.bool (AW.orCons (TW.cmpK (EW.name 3 rfl rfl (EW.cstr (⟨_, CmpS.eqS _ _, ifFd t1 (AW.orCons (TW.cmpK (EW.name 3 rfl rfl (EW.cstr (⟨_, CmpS.eqS _ _, ifTd t2 (ifT ?_)⟩)))))⟩)))))))
      refine SWs.consK (SW.assignTK (EW.callK rfl (LW.consK (EW.name 0 rfl rfl (LW.consK (EW.binK (EW.name 1 rfl rfl (EW.cint (⟨_, BinS.add _ _, LW.nil ?_⟩))))))) C.f_sum_at.some))
      refine (sum_at_spec C (n + 2 * f + 2) (at_ := at_ + 1) hl hw).mono (Nat.le_refl _) ?_ (fun c x => ⟨x.1, by rw [StNo, hP, hk, pBody, x.2]; rfl⟩)
      rintro _ ⟨k, ps, a', h1, h2, h3, rfl⟩
      refine ⟨_, rfl, AsW.two 4 1 rfl rfl (by decide) (by decide) (by decide) (by decide) ?_⟩
      refine SWs.consK (SW.retK (EW.tupleK (LW.consK (EW.tupleK (LW.consK (EW.name 3 rfl rfl (LW.consK (EW.name 4 rfl rfl (LW.nil (⟨_, .cons (.cons .nil), (show 2 ≤ sizeLine by decide), LW.consK (EW.name 1 rfl rfl (LW.nil (⟨_, .cons (.cons .nil), (show 2 ≤ sizeLine by decide), ?_⟩)))⟩))))))))))
      exact ⟨.nought k ps, a', by (first | lia | omega), h2, by rw [hP, hk, pBody, h3]; rfl, by rw [hkw]; rfl⟩
    | goes =>
      have T := knT_of hk
      have hkw : kind = "goes" := kn_word hk (by decide)
      have t1 : (kind == "above") = false := T.above
      have t2 : (kind == "nought") = false := T.nought
      have t3 : (kind == "goes") = true := T.goes
      refine SWs.consK (SW.ife (TW.bool (AW.orCons (TW.cmpK (EW.name 3 rfl rfl (EW.cstr (⟨_, CmpS.eqS _ _, ifFd t1 (AW.orCons (TW.cmpK (EW.name 3 rfl rfl (EW.cstr (⟨_, CmpS.eqS _ _, ifFd t2 (AW.orNil (ifF (SWs.nil ?_)))⟩)))))⟩)))))))
      refine SWs.consK (SW.ife (TW.cmpK (EW.name 3 rfl rfl (EW.cstr (⟨_, CmpS.eqS _ _, ifTd t3 ?_⟩)))))
      -- number = number_at(words, at + 1)
      refine SWs.consK (SW.assignK 5 rfl (by decide) (by decide) (EW.callK rfl (LW.consK (EW.name 0 rfl rfl (LW.consK (EW.binK (EW.name 1 rfl rfl (EW.cint (⟨_, BinS.add _ _, LW.nil ?_⟩))))))) C.f_number_at.some))
      refine (number_at_spec C (n + 2 * f + 3) (at_ := at_ + 1) hl60 hw).mono (Nat.le_refl _) ?_ (fun c x => ⟨x.1, ?_⟩)
      rotate_left
      · rw [StNo, hP, hk]
        rcases no_num x.2 with e | ⟨w, e, h⟩
        · rw [e]; rfl
        · rw [e]; exact pGoes_no rd _ _ h
      rintro _ ⟨w1, m, hw1, hm, rfl⟩
      refine ⟨_, rfl, ?_⟩
      -- if number < 1:
      refine SWs.consK (SW.ife (TW.cmpK (EW.name 5 rfl rfl (EW.cint (⟨_, CmpS.ltI _ _, ?_⟩)))))
      try dsimp only
      split
      · rename_i h
        exact SWs.consK (SW.raise_ rfl C.o_NoNote ⟨rfl, by rw [StNo, hP, hk, drop_get hw1]; exact pGoes_low rd _ _ hm (of_decide_eq_true h)⟩)
      rename_i h
      have hm1 : ¬ m < 1 := fun q => h (decide_eq_true q)
      have hG : pBody rd (parse rd f) (ws.drop (at_ + 1)) .goes = (pSum rd (ws.drop (at_ + 2))).map fun q => (St.goes m q.1.1 q.1.2, q.2) := by rw [drop_get hw1]; exact pGoes_k rd _ _ hm hm1
      refine SWs.nil ?_
      -- one, at = sum_at(words, at + 2)
      refine SWs.consK (SW.assignTK (EW.callK rfl (LW.consK (EW.name 0 rfl rfl (LW.consK (EW.binK (EW.name 1 rfl rfl (EW.cint (⟨_, BinS.add _ _, LW.nil ?_⟩))))))) C.f_sum_at.some))
      refine (sum_at_spec C (n + 2 * f + 2) (at_ := at_ + 2) hl hw).mono (Nat.le_refl _) ?_ (fun c x => ⟨x.1, by rw [StNo, hP, hk, hG, x.2]; rfl⟩)
      rintro _ ⟨k, ps, a', h1, h2, h3, rfl⟩
      refine ⟨_, rfl, AsW.two 4 1 rfl rfl (by decide) (by decide) (by decide) (by decide) ?_⟩
      refine SWs.consK (SW.retK (EW.tupleK (LW.consK (EW.tupleK (LW.consK (EW.name 3 rfl rfl (LW.consK (EW.name 5 rfl rfl (LW.consK (EW.name 4 rfl rfl (LW.nil (⟨_, .cons (.cons (.cons .nil)), (show 3 ≤ sizeLine by decide), LW.consK (EW.name 1 rfl rfl (LW.nil (⟨_, .cons (.cons .nil), (show 2 ≤ sizeLine by decide), ?_⟩)))⟩))))))))))))
      exact ⟨.goes m k ps, a', by (first | lia | omega), h2, by rw [hP, hk, hG, h3]; rfl, by rw [hkw]; rfl⟩
    | no =>
      have T := knT_of hk
      have hkw : kind = "not" := kn_word hk (by decide)
      have t1 : (kind == "above") = false := T.above
      have t2 : (kind == "nought") = false := T.nought
      have t3 : (kind == "goes") = false := T.goes
      have t4 : (kind == "not") = true := T.no
      refine SWs.consK (SW.ife (TW.bool (AW.orCons (TW.cmpK (EW.name 3 rfl rfl (EW.cstr (⟨_, CmpS.eqS _ _, ifFd t1 (AW.orCons (TW.cmpK (EW.name 3 rfl rfl (EW.cstr (⟨_, CmpS.eqS _ _, ifFd t2 (AW.orNil (ifF (SWs.nil ?_)))⟩)))))⟩)))))))
      refine SWs.consK (SW.ife (TW.cmpK (EW.name 3 rfl rfl (EW.cstr (⟨_, CmpS.eqS _ _, ifFd t3 (SWs.nil ?_)⟩)))))
      refine SWs.consK (SW.ife (TW.cmpK (EW.name 3 rfl rfl (EW.cstr (⟨_, CmpS.eqS _ _, ifTd t4 ?_⟩)))))
      refine SWs.consK (SW.assignTK (EW.callK rfl (LW.consK (EW.name 0 rfl rfl (LW.consK (EW.binK (EW.name 1 rfl rfl (EW.cint (⟨_, BinS.add _ _, LW.consK (EW.binK (EW.name 2 rfl rfl (EW.cint (⟨_, BinS.add _ _, LW.nil ?_⟩))))⟩))))))) C.f_statement_at.some))
      refine (ih (at_ + 1)).mono (Nat.le_succ _) ?_ (fun c x => ⟨x.1, by rw [StNo, hP, hk, pBody, x.2]; rfl⟩)
      rintro _ ⟨s, a', h1, h2, h3, rfl⟩
      refine ⟨_, rfl, AsW.two 4 1 rfl rfl (by decide) (by decide) (by decide) (by decide) ?_⟩
      refine SWs.consK (SW.retK (EW.tupleK (LW.consK (EW.tupleK (LW.consK (EW.name 3 rfl rfl (LW.consK (EW.name 4 rfl rfl (LW.nil (⟨_, .cons (.cons .nil), (show 2 ≤ sizeLine by decide), LW.consK (EW.name 1 rfl rfl (LW.nil (⟨_, .cons (.cons .nil), (show 2 ≤ sizeLine by decide), ?_⟩)))⟩))))))))))
      exact ⟨.neg s, a', by (first | lia | omega), h2, by rw [hP, hk, pBody, h3]; rfl, by rw [hkw]; rfl⟩
    | conn a =>
      have T := knT_of hk
      have hkw : kind = cw a := kn_word hk (by cases a <;> decide)
      have t1 : (kind == "above") = false := T.above
      have t2 : (kind == "nought") = false := T.nought
      have t3 : (kind == "goes") = false := T.goes
      have t4 : (kind == "not") = false := T.no
      refine SWs.consK (SW.ife (TW.bool (AW.orCons (TW.cmpK (EW.name 3 rfl rfl (EW.cstr (⟨_, CmpS.eqS _ _, ifFd t1 (AW.orCons (TW.cmpK (EW.name 3 rfl rfl (EW.cstr (⟨_, CmpS.eqS _ _, ifFd t2 (AW.orNil (ifF (SWs.nil ?_)))⟩)))))⟩)))))))
      refine SWs.consK (SW.ife (TW.cmpK (EW.name 3 rfl rfl (EW.cstr (⟨_, CmpS.eqS _ _, ifFd t3 (SWs.nil ?_)⟩)))))
      refine SWs.consK (SW.ife (TW.cmpK (EW.name 3 rfl rfl (EW.cstr (⟨_, CmpS.eqS _ _, ifFd t4 (SWs.nil ?_)⟩)))))
      refine SWs.consK (SW.ife (TW.mono (Q := fun b => b = true) (TW.bool (AW.orCons (TW.cmpK (EW.name 3 rfl rfl (EW.cstr (⟨_, CmpS.eqS _ _, ?_⟩)))))) ?_))
      · cases a with
        | true => exact ifTd T.and_ rfl
        | false => exact ifFd T.and_ (AW.orCons (TW.cmpK (EW.name 3 rfl rfl (EW.cstr (⟨_, CmpS.eqS _ _, ifTd T.or_ rfl⟩)))))
      rintro _ rfl
      refine ifT ?_
      refine SWs.consK (SW.assignTK (EW.callK rfl (LW.consK (EW.name 0 rfl rfl (LW.consK (EW.binK (EW.name 1 rfl rfl (EW.cint (⟨_, BinS.add _ _, LW.consK (EW.binK (EW.name 2 rfl rfl (EW.cint (⟨_, BinS.add _ _, LW.nil ?_⟩))))⟩))))))) C.f_parts_at.some))
      refine (parts_at_spec C (n + 2 * f + 2) f (deep := deep + 1) (at_ := at_ + 1) hl hw ih).mono (Nat.le_refl _) ?_ (fun c x => ⟨x.1, by rw [StNo, hP, hk, pBody_conn, x.2]; rfl⟩)
      rintro _ ⟨l, a', h1, h2, h3, rfl⟩
      refine ⟨_, rfl, AsW.two 6 1 rfl rfl (by decide) (by decide) (by decide) (by decide) ?_⟩
      refine SWs.consK (SW.retK (EW.tupleK (LW.consK (EW.tupleK (LW.consK (EW.name 3 rfl rfl (LW.consK (EW.name 6 rfl rfl (LW.nil (⟨_, .cons (.cons .nil), (show 2 ≤ sizeLine by decide), LW.consK (EW.name 1 rfl rfl (LW.nil (⟨_, .cons (.cons .nil), (show 2 ≤ sizeLine by decide), ?_⟩)))⟩))))))))))
      exact ⟨.conn a l, a', by (first | lia | omega), h2, by rw [hP, hk, pBody_conn, h3]; rfl, by rw [hkw]; rfl⟩
    | bind e =>
      have T := knT_of hk
      have hkw : kind = bw e := kn_word hk (by cases e <;> decide)
      have t1 : (kind == "above") = false := T.above
      have t2 : (kind == "nought") = false := T.nought
      have t3 : (kind == "goes") = false := T.goes
      have t4 : (kind == "not") = false := T.no
      have t5 : (kind == "and") = false := T.and_
      have t6 : (kind == "or") = false := T.or_
      refine SWs.consK (SW.ife (TW.bool (AW.orCons (TW.cmpK (EW.name 3 rfl rfl (EW.cstr (⟨_, CmpS.eqS _ _, ifFd t1 (AW.orCons (TW.cmpK (EW.name 3 rfl rfl (EW.cstr (⟨_, CmpS.eqS _ _, ifFd t2 (AW.orNil (ifF (SWs.nil ?_)))⟩)))))⟩)))))))
      refine SWs.consK (SW.ife (TW.cmpK (EW.name 3 rfl rfl (EW.cstr (⟨_, CmpS.eqS _ _, ifFd t3 (SWs.nil ?_)⟩)))))
      refine SWs.consK (SW.ife (TW.cmpK (EW.name 3 rfl rfl (EW.cstr (⟨_, CmpS.eqS _ _, ifFd t4 (SWs.nil ?_)⟩)))))
      refine SWs.consK (SW.ife (TW.bool (AW.orCons (TW.cmpK (EW.name 3 rfl rfl (EW.cstr (⟨_, CmpS.eqS _ _, ifFd t5 (AW.orCons (TW.cmpK (EW.name 3 rfl rfl (EW.cstr (⟨_, CmpS.eqS _ _, ifFd t6 (AW.orNil (ifF (SWs.nil ?_)))⟩)))))⟩)))))))
      refine SWs.consK (SW.ife (TW.mono (Q := fun b => b = true) (TW.bool (AW.orCons (TW.cmpK (EW.name 3 rfl rfl (EW.cstr (⟨_, CmpS.eqS _ _, ?_⟩)))))) ?_))
      · cases e with
        | true => exact ifTd T.some_ rfl
        | false => exact ifFd T.some_ (AW.orCons (TW.cmpK (EW.name 3 rfl rfl (EW.cstr (⟨_, CmpS.eqS _ _, ifTd T.all_ rfl⟩)))))
      rintro _ rfl
      refine ifT ?_
      -- name = name_at(words, at + 1)
      refine SWs.consK (SW.assignK 7 rfl (by decide) (by decide) (EW.callK rfl (LW.consK (EW.name 0 rfl rfl (LW.consK (EW.binK (EW.name 1 rfl rfl (EW.cint (⟨_, BinS.add _ _, LW.nil ?_⟩))))))) C.f_name_at.some))
      refine (name_at_spec C (n + 2 * f + 3) (at_ := at_ + 1) hl60 hw60).mono (Nat.le_refl _) ?_ (fun c x => ⟨x.1, ?_⟩)
      rotate_left
      · rw [StNo, hP, hk]
        rcases no_name x.2 with e' | ⟨w, e', h⟩
        · rw [e']; rfl
        · rw [e']; exact pBind_no rd _ _ h
      rintro _ ⟨nm, hnm, hnw, rfl⟩
      refine ⟨_, rfl, ?_⟩
      have hG : pBody rd (parse rd f) (ws.drop (at_ + 1)) (.bind e) = (parse rd f (ws.drop (at_ + 2))).map fun q => (St.bind e nm q.1, q.2) := by rw [drop_get hnm]; exact pBind_k rd _ _ hnw
      -- one, at = statement_at(words, at + 2, deep + 1)
      refine SWs.consK (SW.assignTK (EW.callK rfl (LW.consK (EW.name 0 rfl rfl (LW.consK (EW.binK (EW.name 1 rfl rfl (EW.cint (⟨_, BinS.add _ _, LW.consK (EW.binK (EW.name 2 rfl rfl (EW.cint (⟨_, BinS.add _ _, LW.nil ?_⟩))))⟩))))))) C.f_statement_at.some))
      refine (ih (at_ + 2)).mono (Nat.le_succ _) ?_ (fun c x => ⟨x.1, by rw [StNo, hP, hk, hG, x.2]; rfl⟩)
      rintro _ ⟨s, a', h1, h2, h3, rfl⟩
      refine ⟨_, rfl, AsW.two 4 1 rfl rfl (by decide) (by decide) (by decide) (by decide) ?_⟩
      refine SWs.consK (SW.retK (EW.tupleK (LW.consK (EW.tupleK (LW.consK (EW.name 3 rfl rfl (LW.consK (EW.name 7 rfl rfl (LW.consK (EW.name 4 rfl rfl (LW.nil (⟨_, .cons (.cons (.cons .nil)), (show 3 ≤ sizeLine by decide), LW.consK (EW.name 1 rfl rfl (LW.nil (⟨_, .cons (.cons .nil), (show 2 ≤ sizeLine by decide), ?_⟩)))⟩))))))))))))
      exact ⟨.bind e nm s, a', by (first | lia | omega), h2, by rw [hP, hk, hG, h3]; rfl, by rw [hkw]; rfl⟩
    | other =>
      have T := knT_of hk
      have t1 : (kind == "above") = false := T.above
      have t2 : (kind == "nought") = false := T.nought
      have t3 : (kind == "goes") = false := T.goes
      have t4 : (kind == "not") = false := T.no
      have t5 : (kind == "and") = false := T.and_
      have t6 : (kind == "or") = false := T.or_
      have t7 : (kind == "some") = false := T.some_
      have t8 : (kind == "all") = false := T.all_
      refine SWs.consK (SW.ife (TW.bool (AW.orCons (TW.cmpK (EW.name 3 rfl rfl (EW.cstr (⟨_, CmpS.eqS _ _, ifFd t1 (AW.orCons (TW.cmpK (EW.name 3 rfl rfl (EW.cstr (⟨_, CmpS.eqS _ _, ifFd t2 (AW.orNil (ifF (SWs.nil ?_)))⟩)))))⟩)))))))
      refine SWs.consK (SW.ife (TW.cmpK (EW.name 3 rfl rfl (EW.cstr (⟨_, CmpS.eqS _ _, ifFd t3 (SWs.nil ?_)⟩)))))
      refine SWs.consK (SW.ife (TW.cmpK (EW.name 3 rfl rfl (EW.cstr (⟨_, CmpS.eqS _ _, ifFd t4 (SWs.nil ?_)⟩)))))
      refine SWs.consK (SW.ife (TW.bool (AW.orCons (TW.cmpK (EW.name 3 rfl rfl (EW.cstr (⟨_, CmpS.eqS _ _, ifFd t5 (AW.orCons (TW.cmpK (EW.name 3 rfl rfl (EW.cstr (⟨_, CmpS.eqS _ _, ifFd t6 (AW.orNil (ifF (SWs.nil ?_)))⟩)))))⟩)))))))
      refine SWs.consK (SW.ife (TW.bool (AW.orCons (TW.cmpK (EW.name 3 rfl rfl (EW.cstr (⟨_, CmpS.eqS _ _, ifFd t7 (AW.orCons (TW.cmpK (EW.name 3 rfl rfl (EW.cstr (⟨_, CmpS.eqS _ _, ifFd t8 (AW.orNil (ifF (SWs.nil ?_)))⟩)))))⟩)))))))
      exact SWs.consK (SW.raise_ rfl C.o_NoNote ⟨rfl, by rw [StNo, hP, hk]; rfl⟩)
theorem split_fit {x : Str} (h : x.length < 1000000) : (Txt.split x " ").length < 2 ^ 20 ∧ ∀ w ∈ Txt.split x " ", w.length < 2 ^ 20 := by
  have h1 := split_le x " "
  exact ⟨by (first | lia | omega), fun w hw => by have := part_short hw; (first | lia | omega)⟩
noncomputable abbrev RdNo (x : Str) : Prop := ¬ ∃ s, parse rd 40 (Txt.split x " ") = some (s, [])
noncomputable def RdIs (x : Str) (q : Rs) : Prop := ∃ s, parse rd 40 (Txt.split x " ") = some (s, []) ∧ q = .im s.d
theorem read_spec (C : Cx B) (n : Nat) {x : Str} (hx : x.length < 1000000) :
    Spec B "read" (NN (RdNo x)) (n + 85) [.im (.str x)] (RdIs x) := by
  refine Spec.of_body (F := F_read) C.f_read rfl (by decide) rfl ?_
  have hq := C.quiet
  have hsz : sizeLine = 16777216 := by decide
  obtain ⟨hl, hw⟩ := split_fit hx
  refine SWs.consK (SW.ife (TW.not (TW.valK (EW.isiK rfl C.b_isinstance rfl C.b_str bb_str (EW.name 0 rfl rfl (⟨_, (IsiS.str_ _).2.2.1, ⟨_, TruS.bool _, ifF (SWs.nil ?_)⟩⟩))))))
  -- words = text.split(' ')
  refine SWs.consK (SW.assignK 1 rfl (by decide) (by decide) (EW.split (EW.name 0 rfl rfl (⟨_, rfl, (by (first | lia | omega)), EW.cstr (⟨_, rfl, (by decide +kernel), parts_fit (Nat.lt_trans hx (by decide)), ⟨_, rfl, ?_⟩⟩)⟩))))
  generalize hws : Txt.split x " " = ws at *
  -- found, at = statement_at(words, 0, 1)
  refine SWs.consK (SW.assignTK (EW.callK rfl (LW.consK (EW.name 1 rfl rfl (LW.consK (EW.cint (LW.consK (EW.cint (LW.nil ?_))))))) C.f_statement_at.some))
  refine (statement_at_spec C hl hw 40 n 1 rfl 0).mono (Nat.le_refl _) ?_ (fun c x => ⟨x.1, ?_⟩)
  rotate_left
  · rintro ⟨s, e⟩
    have := x.2
    rw [hws] at e
    rw [StNo, List.drop_zero, e] at this; cases this
  rintro _ ⟨s, a', h1, h2, h3, rfl⟩
  rw [List.drop_zero] at h3
  refine ⟨_, rfl, AsW.two 2 3 rfl rfl (by decide) (by decide) (by decide) (by decide) ?_⟩
  refine SWs.consK (SW.ife (TW.cmpK (EW.name 3 rfl rfl (EW.bcallK rfl C.b_len bb_len trivial (LW.consK (EW.name 1 rfl rfl (LW.nil (⟨_, BuiS.lenL (by rw [List.length_map]; (first | lia | omega)), ⟨_, CmpS.neI _ _, ?_⟩⟩))))))))
  rw [List.length_map]
  by_cases he : a' = ws.length
  · subst he
    refine ifFd (by simp) (SWs.nil ?_)
    refine SWs.consK (SW.retK (EW.name 2 rfl rfl ⟨s, ?_, rfl⟩))
    rw [hws, h3, List.drop_length]
  · refine ifTd (by simp; (first | lia | omega)) (SWs.consK (SW.raise_ rfl C.o_NoNote ⟨rfl, ?_⟩))
    rintro ⟨s', e⟩
    rw [hws, h3] at e
    have : ws.drop a' = [] := by injection e with e; injection e
    have := congrArg List.length this
    rw [List.length_drop] at this
    simp at this; (first | lia | omega)
end Mine
end

section
open PySem PySem.W PyProof.Rows PySem.Calls PyProof
set_option Elab.async false
set_option maxHeartbeats 1600000
set_option maxRecDepth 100000
set_option linter.unusedVariables false
namespace Mine
variable {B : Bs}
theorem range_pick (l : List D) : ∀ m : Nat, (List.range m).filterMap (fun k => l[k]?) = l.take m
  | 0 => by simp
  | m + 1 => by
    rw [List.range_succ, List.filterMap_append, range_pick l m, List.take_add_one]
    congr 1
theorem pick_eq (l : List D) (lo hi : Option Int) : pick l lo hi = (l.drop (kms_lo lo l.length)).take (kms_hi hi l.length - kms_lo lo l.length) := by
  unfold pick
  rw [kms_bounds]
  generalize kms_lo lo l.length = a
  generalize kms_hi hi l.length = b
  unfold sliceRange
  rw [← range_pick, List.filterMap_map]
  have e : (if (1 : Int) > 0 then (if (a : Int) < (b : Int) then ((b : Int) - a + 1 - 1) / 1 else 0) else (if (a : Int) > b then ((a : Int) - b - 1 - 1) / (-1) else 0)).toNat = b - a := by
    rw [if_pos (by decide)]
    try dsimp only
    split
    · rw [Int.ediv_one]; (first | lia | omega)
    · simp; (first | lia | omega)
  show List.filterMap _ (List.range (Int.toNat _)) = _
  rw [e]
  refine congrArg (fun f => List.filterMap f (List.range (b - a))) (funext fun k => ?_)
  show l[((a : Int) + 1 * (k : Int)).toNat]? = (l.drop a)[k]?
  rw [List.getElem?_drop, show ((a : Int) + 1 * (k : Int)).toNat = a + k by (first | lia | omega)]
theorem lo_nat (k n : Nat) : kms_lo (some (k : Int)) n = min k n := by
  show (if (k : Int) < 0 then n - (-(k : Int)).toNat else min (k : Int).toNat n) = min k n
  rw [if_neg (by (first | lia | omega)), Int.toNat_natCast]
theorem hi_nat (k n : Nat) : kms_hi (some (k : Int)) n = min k n := by
  show (if (k : Int) < 0 then n - (-(k : Int)).toNat else min (k : Int).toNat n) = min k n
  rw [if_neg (by (first | lia | omega)), Int.toNat_natCast]
theorem pick_from {ws : List Str} {k : Nat} : pick (ws.map D.str) (some (k : Int)) none = (ws.drop k).map .str := by
  rw [pick_eq, List.map_drop, lo_nat, show kms_hi none (ws.map D.str).length = (ws.map D.str).length from rfl, List.length_map]
  by_cases h : k ≤ ws.length
  · rw [Nat.min_eq_left h]
    exact List.take_of_length_le (by simp)
  · rw [Nat.min_eq_right (by (first | lia | omega)), List.drop_eq_nil_of_le (by simp), List.drop_eq_nil_of_le (by simp; (first | lia | omega))]; simp
theorem pick_to {ws : List Str} {k : Nat} : pick (ws.map D.str) none (some (k : Int)) = (ws.take k).map .str := by
  rw [pick_eq, List.map_take, hi_nat, show kms_lo none (ws.map D.str).length = 0 from rfl, List.length_map, List.drop_zero, Nat.sub_zero]
  by_cases h : k ≤ ws.length
  · rw [Nat.min_eq_left h]
  · rw [Nat.min_eq_right (by (first | lia | omega)), List.take_of_length_le (by simp), List.take_of_length_le (by simp; (first | lia | omega))]
noncomputable def numD (w : Str) : D := match numW w with
  | none => .none
  | some i => .int i
theorem figs_slice (w : Str) : Txt.slice w (some (if (Txt.slice w none (some 1) == "-") then 1 else 0)) none = figs w := by
  unfold figs
  cases (Txt.slice w none (some 1) == "-") with
  | true => rfl
  | false =>
    have := sl_from (w := w) (k := 0) (Nat.zero_le _)
    exact this.trans (str_eta (w := w) rfl).symm
noncomputable def LnI (w : Str) (rest : List D) (ρ' : List (Option Sl)) : Prop := ∃ (r : List Str) (x : Option Sl), rest = r.map .str ∧ ((signs (figs w)).all fun c => Txt.contains figuresL c) = (r.all fun c => Txt.contains figuresL c) ∧ ρ' = [some (.im (.str w)), some (.im (.str (figs w))), x]
noncomputable def LmI (w : Str) (rest : List D) (ρ' : List (Option Sl)) : Prop := ∃ (r : List Str) (x : Option Sl), rest = r.map .str ∧ ((signs w).all fun c => Txt.contains lettersL c) = (r.all fun c => Txt.contains lettersL c) ∧ ρ' = [some (.im (.str w)), x]
theorem law_number_spec (C : Cx B) (n : Nat) {w : Str} (hwl : w.length < 2 ^ 20) : Spec B "_law_number" NoX (n + 1) [.im (.str w)] (Is (.im (numD w))) := by
  refine Spec.of_body (F := F_number) C.f_number rfl (by decide) rfl ?_
  have hq := C.quiet
  have hsz : sizeLine = 16777216 := by decide
  have bad : okNum w = false → numD w = .none := fun h => by unfold numD numW; rw [h]; rfl
  have hfl : (figs w).length ≤ w.length := by
    unfold figs; split
    · exact Txt.slice_le w _ _
    · exact Nat.le_refl _
  -- _law_plain = _law_word[int(_law_word[:1] == '-'):]
  refine SWs.consK (SW.assignK 1 rfl (by decide) (by decide) (EW.sliceK (EW.name 0 rfl rfl (PW.someK (EW.bcallK rfl C.b_int bb_int trivial (LW.consK (EW.cmpK (EW.sliceK (EW.name 0 rfl rfl (PW.none (PW.someK (EW.cint (⟨_, rfl, ⟨_, SlcS.str (le_sz (Nat.le_of_lt hwl)), EW.cstr (⟨_, CmpS.eqS _ _, LW.nil (⟨_, BuiS.intB _, ⟨_, rfl, PW.none (⟨_, SlcS.str (le_sz (Nat.le_of_lt hwl)), ⟨_, rfl, ?_⟩⟩)⟩⟩)⟩)⟩⟩)))))))))))))
  rw [figs_slice]
  generalize hbad : (!(decide (1 ≤ (figs w).length) && decide ((figs w).length ≤ 60)) || (w == "-0") || ((figs w).cps[0]? == some 48 && decide (1 < (figs w).length))) = b
  have hok : okNum w = (!b && (signs (figs w)).all fun c => Txt.contains figuresL c) := by
    rw [← hbad]; unfold okNum; simp only [Bool.not_or, Bool.not_not]
  refine SWs.consK (SW.ife (TW.mono (Q := fun c => c = b) (TW.bool (AW.orCons (TW.cmpK (EW.name 1 rfl rfl (EW.cstr (⟨_, CmpS.eqS _ _, ?_⟩)))))) ?_))
  · by_cases h1 : 1 ≤ (figs w).length
    · have he : (figs w == "") = false := beq_eq_false_iff_ne.mpr fun q => by rw [q] at h1; exact absurd h1 (by decide)
      refine ifFd he (AW.orCons (TW.cmpK (EW.bcallK rfl C.b_len bb_len trivial (LW.consK (EW.name 1 rfl rfl (LW.nil (⟨_, BuiS.lenS (Nat.lt_trans (Nat.lt_of_le_of_lt hfl hwl) (by decide)), EW.cint (⟨_, CmpS.gtI _ _, ?_⟩)⟩)))))))
      by_cases h2 : (figs w).length ≤ 60
      · refine ifFd (decide_eq_false fun q => Nat.not_lt.mpr h2 (Int.ofNat_lt.mp q)) (AW.orCons (TW.cmpK (EW.name 0 rfl rfl (EW.cstr (⟨_, CmpS.eqS _ _, ?_⟩)))))
        rw [decide_eq_true h1, decide_eq_true h2] at hbad
        obtain ⟨c0, hc0⟩ : ∃ c, (figs w).cps[0]? = some c := ⟨(figs w).cps[0]'h1, Array.getElem?_eq_getElem h1⟩
        have hz : ((⟨#[c0]⟩ : Str) == "0") = (c0 == 48) := by
          have e : ("0" : Str) = ⟨#[48]⟩ := by decide +kernel
          rw [e]
          by_cases q : c0 = 48
          · subst q; simp
          · rw [one_ne q, beq_eq_false_iff_ne.mpr q]
        rw [hc0] at hbad
        cases hz0 : (w == "-0") with
        | true => rw [hz0] at hbad; exact ifT (by rw [← hbad]; rfl)
        | false =>
          rw [hz0] at hbad
          refine ifF (AW.orCons (TW.bool (AW.andCons (TW.cmpK (EW.subK (EW.name 1 rfl rfl (EW.cint (⟨_, SubS.str (c := c0) (j := 0) (by decide) (by decide) (seqIndex_pos (by decide) (Int.ofNat_lt.mpr h1)) hc0, EW.cstr (⟨_, CmpS.eqS _ _, ?_⟩)⟩))))))))
          rw [hz]
          cases hc : (c0 == 48) with
          | false => exact ifF (ifF (AW.orNil (by rw [← hbad]; simp [hc])))
          | true =>
            refine ifT (AW.andCons (TW.cmpK (EW.bcallK rfl C.b_len bb_len trivial (LW.consK (EW.name 1 rfl rfl (LW.nil (⟨_, BuiS.lenS (Nat.lt_trans (Nat.lt_of_le_of_lt hfl hwl) (by decide)), EW.cint (⟨_, CmpS.gtI _ _, ?_⟩)⟩)))))))
            have hcc : (some c0 == some 48) = true := by simpa using hc
            by_cases h : 1 < (figs w).length
            · exact ifTd (decide_eq_true (Int.ofNat_lt.mpr h)) (AW.andNil (ifT (by rw [← hbad]; simp [hcc, h])))
            · exact ifFd (decide_eq_false fun q => h (Int.ofNat_lt.mp q)) (ifF (AW.orNil (by rw [← hbad]; simp [h])))
      · exact ifTd (decide_eq_true (Int.ofNat_lt.mpr (Nat.not_le.mp h2))) (by rw [← hbad, decide_eq_false h2]; simp)
    · have he : (figs w == "") = true := by
        have : figs w = ⟨#[]⟩ := by
          refine str_eta (List.length_eq_zero_iff.mp ?_)
          rw [str_len]; (first | lia | omega)
        rw [this]; decide +kernel
      exact ifTd he (by rw [← hbad, decide_eq_false h1]; simp)
  intro c hcb
  subst hcb
  cases c with
  | true => exact ifT (SWs.consK (SW.retK (EW.cnone (by show _ = _; rw [bad (by rw [hok]; rfl)]))))
  | false =>
    refine ifF (SWs.nil ?_)
    refine SWs.consK (SW.forK (EW.name 1 rfl rfl (⟨_, IterS.str, LnI w, ?_, ?_, ?_⟩)))
    · exact ⟨signs (figs w), none, signsD_eq _, rfl, rfl⟩
    · rintro d rest ρ' ⟨r, x, e1, e2, rfl⟩
      cases r with
      | nil => cases e1
      | cons c r =>
        cases e1
        refine AsW.name 2 rfl (by decide) (by decide) ?_
        refine SWs.consK (SW.ife (TW.cmpK (EW.name 2 rfl rfl (EW.cstr (⟨_, CmpS.notInS figuresL _, ?_⟩)))))
        rw [List.all_cons] at e2
        cases hc : Txt.contains figuresL c with
        | false =>
          refine ifTd (by show (!false) = true; rfl) (SWs.consK (SW.retK (EW.cnone ?_)))
          show _ = _
          rw [bad (by rw [hok, e2, hc]; rfl)]
        | true =>
          refine ifFd (by show (!true) = false; rfl) (SWs.nil (SWs.nil ⟨r, _, rfl, ?_, rfl⟩))
          rw [e2, hc]; rfl
    · rintro ρ' ⟨r, x, e1, e2, rfl⟩
      have : r = [] := by cases r with | nil => rfl | cons p r => cases e1
      subst this
      have hokw : okNum w = true := by rw [hok, e2]; rfl
      obtain ⟨i, hi⟩ := num_text hokw
      refine SWs.nil ?_
      refine SWs.consK (SW.retK (EW.bcallK rfl C.b_int bb_int trivial (LW.consK (EW.name 0 rfl rfl (LW.nil (⟨_, BuiS.intS (Nat.le_trans (num_len hokw) (by decide)) hi, ?_⟩))))))
      show _ = _
      unfold numD numW; rw [hokw, if_pos rfl, hi]
theorem law_is_name_spec (C : Cx B) (n : Nat) {w : Str} (hwl : w.length < 2 ^ 20) : Spec B "_law_is_name" NoX (n + 1) [.im (.str w)] (Is (.im (.bool (nameW w)))) := by
  refine Spec.of_body (F := F_is_name) C.f_is_name rfl (by decide) rfl ?_
  have hq := C.quiet
  refine SWs.consK (SW.forK (EW.name 0 rfl rfl (⟨_, IterS.str, LmI w, ?_, ?_, ?_⟩)))
  · exact ⟨signs w, none, signsD_eq _, rfl, rfl⟩
  · rintro d rest ρ' ⟨r, x, e1, e2, rfl⟩
    cases r with
    | nil => cases e1
    | cons c r =>
      cases e1
      refine AsW.name 1 rfl (by decide) (by decide) ?_
      refine SWs.consK (SW.ife (TW.cmpK (EW.name 1 rfl rfl (EW.cstr (⟨_, CmpS.notInS lettersL _, ?_⟩)))))
      rw [List.all_cons] at e2
      cases hc : Txt.contains lettersL c with
      | false =>
        refine ifTd (by show (!false) = true; rfl) (SWs.consK (SW.retK (EW.cbool ?_)))
        show _ = _
        unfold nameW; rw [e2, hc]; simp
      | true =>
        refine ifFd (by show (!true) = false; rfl) (SWs.nil (SWs.nil ⟨r, _, rfl, ?_, rfl⟩))
        rw [e2, hc]; rfl
  · rintro ρ' ⟨r, x, e1, e2, rfl⟩
    have : r = [] := by cases r with | nil => rfl | cons p r => cases e1
    subst this
    refine SWs.nil ?_
    refine SWs.consK (SW.retK (EW.and2 (EW.cmpK (EW.cint (EW.bcallK rfl C.b_len bb_len trivial (LW.consK (EW.name 0 rfl rfl (LW.nil (⟨_, BuiS.lenS (Nat.lt_trans hwl (by decide)), ⟨_, CmpS.ltI _ _, ⟨_, TruS.bool _, ?_⟩⟩⟩)))))))))
    by_cases h : 0 < w.length
    · refine ifTd (decide_eq_true (Int.ofNat_lt.mpr h)) (EW.cmpK (EW.bcallK rfl C.b_len bb_len trivial (LW.consK (EW.name 0 rfl rfl (LW.nil (⟨_, BuiS.lenS (Nat.lt_trans hwl (by decide)), EW.cint (⟨_, CmpS.ltI _ _, ?_⟩)⟩))))))
      show _ = _
      unfold nameW
      rw [e2, decide_eq_true (show 1 ≤ w.length from h)]
      simp only [List.all_nil, Bool.and_true, Bool.true_and]
      have : decide ((w.length : Int) < 9) = decide (w.length ≤ 8) := decide_eq_decide.mpr (by (first | lia | omega))
      rw [this]
    · refine ifFd (decide_eq_false fun q => h (Int.ofNat_lt.mp q)) ?_
      show _ = _
      unfold nameW
      rw [decide_eq_false (show ¬ 1 ≤ w.length from h), decide_eq_false (show ¬ (0 : Int) < (w.length : Int) from fun q => h (Int.ofNat_lt.mp q))]
      rfl
noncomputable def resD : Option (D × List Str) → Rs
  | none => .im .none
  | some (d, r) => .fr (.pair d (r.map .str))
theorem pSum_of_none {ws : List Str} (h : pParts rd [] (ws.drop 1) = none) : pSum rd ws = none := by
  cases ws with
  | nil => rfl
  | cons w r =>
    rw [pSum]
    cases rd.num w with
    | none => rfl
    | some k => rw [show pParts rd [] r = none from h]; rfl
theorem get_end {ws : List Str} {a : Nat} (h : a ≤ ws.length) : (ws.map D.str ++ [D.str ""])[a]? = some (.str ((ws[a]?).getD "")) := by
  by_cases q : a < ws.length
  · rw [List.getElem?_append_left (by simpa using q), List.getElem?_map, List.getElem?_eq_getElem q]; rfl
  · have : a = ws.length := by (first | lia | omega)
    subst this
    rw [List.getElem?_append_right (by simp)]
    simp
theorem nameW_nil : nameW "" = false := by decide +kernel
theorem numW_nil : numW "" = none := by decide +kernel
noncomputable def SaIs (ws : List Str) (q : Rs) : Prop := q = resD ((pSum rd ws).map fun q => (sumD q.1.1 q.1.2, q.2))
noncomputable def SaI (ws : List Str) (m : Nat) (ρ' : List (Option Sl)) : Prop := ∃ (a : Nat) (acc : List (Str × Int)) (x y : Option Sl), m = ws.length - a ∧ 1 ≤ a ∧ acc.length ≤ a ∧ a ≤ ws.length + 1 ∧ pParts rd [] (ws.drop 1) = pParts rd acc (ws.drop a) ∧
  ρ' = [some (.fz (.lst (ws.map .str))), some (.own (.lst (acc.map pD))), some (.im (.int (a : Nat))), x, y]
theorem law_sum_along_spec (C : Cx B) (n : Nat) {ws : List Str} (hl : ws.length < 2 ^ 20) (hw : ∀ w ∈ ws, w.length < 2 ^ 20) :
    Spec B "_law_sum_along" NoX (n + 2) [.ct (.lst (ws.map .str))] (SaIs ws) := by
  refine Spec.of_body (F := F_sum_along) C.f_sum_along rfl (by decide) rfl ?_
  have hq := C.quiet
  have hsz : sizeLine = 16777216 := by decide
  refine SWs.consK (SW.assignK 1 rfl (by decide) (by decide) (EW.listK (LW.nil (⟨_, .nil, (show 0 ≤ sizeLine by decide), ⟨_, rfl, ?_⟩⟩))))
  refine SWs.consK (SW.assignK 2 rfl (by decide) (by decide) (EW.cint (⟨_, rfl, ?_⟩)))
  refine SWs.consK (SW.whileK (SaI ws) (ws.length - 1) ?_ ?_)
  · exact ⟨1, [], none, none, rfl, Nat.le_refl _, Nat.zero_le _, Nat.le_add_left 1 _, rfl, rfl⟩
  rintro m ρ' ⟨a, acc, x, y, e1, e2, e3, e3', e4, rfl⟩
  refine TW.bool (AW.andCons (TW.cmpK (EW.name 2 rfl rfl (EW.bcallK rfl C.b_len bb_len trivial (LW.consK (EW.name 0 rfl rfl (LW.nil (⟨_, BuiS.lenL (m63 hl), ⟨_, CmpS.ltI _ _, ?_⟩⟩))))))))
  rw [List.length_map]
  cases hwe : ws[a]? with
  | none =>
    have ha : ws.length ≤ a := List.getElem?_eq_none_iff.mp hwe
    refine ifFd (decide_eq_false fun q => Nat.not_lt.mpr ha (Int.ofNat_lt.mp q)) (ifF (SWs.nil ?_))
    refine SWs.consK (SW.ife (TW.bool (AW.orCons (TW.cmpK (EW.name 2 rfl rfl (EW.bcallK rfl C.b_len bb_len trivial (LW.consK (EW.name 0 rfl rfl (LW.nil (⟨_, BuiS.lenL (m63 hl), ⟨_, CmpS.geI _ _, ?_⟩⟩))))))))))
    rw [List.length_map]
    refine ifTd (decide_eq_true (Int.ofNat_le.mpr ha)) (ifT (SWs.consK (SW.retK (EW.cnone ?_))))
    show _ = _
    rw [pSum_of_none (by rw [e4, drop_none hwe, pParts_nil])]; rfl
  | some w =>
    have ha := get_lt hwe
    have hwl := hw w (List.mem_of_getElem? hwe)
    have hgd : (ws.map D.str)[(a : Int).toNat]? = some (.str w) := by rw [Int.toNat_natCast, List.getElem?_map, hwe]; rfl
    refine ifTd (decide_eq_true (Int.ofNat_lt.mpr ha)) (AW.andCons (TW.cmpK (EW.subK (EW.name 0 rfl rfl (EW.name 2 rfl rfl (⟨_, SubS.list (nn a) (lt63 (Nat.lt_trans ha hl)) hgd, EW.cstr (⟨_, CmpS.neS _ _, ?_⟩)⟩))))))
    cases he : isEnd w with
    | true =>
      have he' : (w == ";") = true := he
      refine ifFd (by show (!(w == ";")) = false; rw [he']; rfl) (ifF (SWs.nil ?_))
      -- the end of the sum
      have hpos : 0 < ws.length := Nat.lt_of_le_of_lt (Nat.zero_le _) ha
      obtain ⟨w0, hw0⟩ : ∃ w0, ws[0]? = some w0 := ⟨ws[0], List.getElem?_eq_getElem hpos⟩
      have hw0l := hw w0 (List.mem_of_getElem? hw0)
      have hgd0 : (ws.map D.str)[(0 : Int).toNat]? = some (.str w0) := by
        show (ws.map D.str)[0]? = _
        rw [List.getElem?_map, hw0]; rfl
      have e5 : pParts rd [] (ws.drop 1) = some (acc, ws.drop (a + 1)) := by rw [e4, drop_get hwe, pParts_end rd _ _ _ he]
      have hd0 := drop_get hw0
      rw [List.drop_zero, Nat.zero_add] at hd0
      refine SWs.consK (SW.ife (TW.bool (AW.orCons (TW.cmpK (EW.name 2 rfl rfl (EW.bcallK rfl C.b_len bb_len trivial (LW.consK (EW.name 0 rfl rfl (LW.nil (⟨_, BuiS.lenL (m63 hl), ⟨_, CmpS.geI _ _, ?_⟩⟩))))))))))
      rw [List.length_map]
      refine ifFd (decide_eq_false fun q => Nat.not_le.mpr ha (Int.ofNat_le.mp q)) (AW.orCons (TW.cmpK (EW.callK rfl (LW.consK (EW.subK (EW.name 0 rfl rfl (EW.cint (⟨_, SubS.list (by decide) (by decide) hgd0, LW.nil ?_⟩))))) C.f_number.some)))
      refine Spec.eq (law_number_spec C n hw0l) ?_ (Nat.le_refl _)
      refine EW.cnone (⟨_, CmpS.isNone _, ?_⟩)
      cases hn : numW w0 with
      | none =>
        have : (numD w0).isNone = true := by unfold numD; rw [hn]; rfl
        refine ifTd this (ifT (SWs.consK (SW.retK (EW.cnone ?_))))
        show _ = _
        rw [hd0, pSum_no rd _ hn]; rfl
      | some k =>
        have hnd : numD w0 = .int k := by unfold numD; rw [hn]
        have : (numD w0).isNone = false := by rw [hnd]; rfl
        refine ifFd this (AW.orNil (ifF (SWs.nil ?_)))
        refine SWs.consK (SW.retK (EW.pairDK (LW.consK (EW.tupleK (LW.consK (EW.callK rfl (LW.consK (EW.subK (EW.name 0 rfl rfl (EW.cint (⟨_, SubS.list (by decide) (by decide) hgd0, LW.nil ?_⟩))))) C.f_number.some))))))
        refine Spec.eq (law_number_spec C n hw0l) ?_ (Nat.le_refl _)
        rw [hnd]
        refine LW.consK (EW.bcallK rfl C.b_tuple bb_tuple trivial (LW.consK (EW.name 1 rfl rfl (LW.nil (⟨_, BuiS.tupleL (by rw [List.length_map]; exact le_sz (Nat.le_of_lt (Nat.lt_of_le_of_lt e3 (Nat.lt_trans ha hl)))), LW.nil (⟨_, .cons (.cons .nil), (show 2 ≤ sizeLine by decide), LW.consK (EW.sliceK (EW.name 0 rfl rfl (PW.someK (EW.binK (EW.name 2 rfl rfl (EW.cint (⟨_, BinS.add _ _, ⟨_, rfl, PW.none (⟨_, SlcS.list (msz hl), LW.nil (⟨_, _, _, rfl, ?_⟩)⟩)⟩⟩)))))))⟩)⟩)))))
        show _ = _
        have hS : pSum rd ws = some ((k, acc), ws.drop (a + 1)) := by
          refine (congrArg (pSum rd) hd0).trans ?_
          rw [pSum_k rd _ _ hn, e5]; rfl
        rw [hS, show ((a : Int) + 1) = ((a + 1 : Nat) : Int) from rfl, pick_from]
        rfl
    | false =>
      have he' : (w == ";") = false := he
      refine ifTd (by show (!(w == ";")) = true; rw [he']; rfl) (AW.andNil (ifT ?_))
      -- _law_by = _law_number(_law_words_here[_law_spot])
      refine SWs.consK (SW.assignK 3 rfl (by decide) (by decide) (EW.callK rfl (LW.consK (EW.subK (EW.name 0 rfl rfl (EW.name 2 rfl rfl (⟨_, SubS.list (nn a) (lt63 (Nat.lt_trans ha hl)) hgd, LW.nil ?_⟩))))) C.f_number.some))
      refine Spec.eq (law_number_spec C n hwl) ?_ (Nat.le_refl _)
      refine ⟨_, rfl, ?_⟩
      -- _law_name = (_law_words_here + [''])[_law_spot + 1]
      have hge := get_end (ws := ws) (a := a + 1) ha
      generalize hnm : (ws[a + 1]?).getD "" = nm at hge
      have hnml : nm.length < 2 ^ 20 := by
        cases q : ws[a + 1]? with
        | none => rw [q] at hnm; subst hnm; decide
        | some v => rw [q] at hnm; subst hnm; exact hw v (List.mem_of_getElem? q)
      refine SWs.consK (SW.assignK 4 rfl (by decide) (by decide) (EW.subK (EW.binK (EW.name 0 rfl rfl (EW.listK (LW.consK (EW.cstr (LW.nil (⟨_, .cons .nil, (show 1 ≤ sizeLine by decide), ⟨_, BinS.addL (by simp; (first | lia | omega)), EW.binK (EW.name 2 rfl rfl (EW.cint (⟨_, BinS.add _ _, ⟨_, SubS.list (d := .str nm) (by (first | lia | omega)) (by (first | lia | omega)) (by rw [show ((a : Int) + 1).toNat = a + 1 by (first | lia | omega)]; exact hge), ⟨_, rfl, ?_⟩⟩⟩)))⟩⟩)))))))))
      -- what is read on
      have hno : ∀ h : (∀ i, numW w = some i → (i != 0 && nameW nm && lastLt acc nm) = false), pSum rd ws = none := fun h => by
        refine pSum_of_none ?_
        rw [e4, drop_get hwe]
        cases hn : numW w with
        | none => exact pParts_no rd acc _ he hn
        | some i =>
          cases q : ws[a + 1]? with
          | none => rw [drop_none q]; exact pParts_one rd acc he
          | some v =>
            rw [q] at hnm
            have : v = nm := hnm
            subst this
            rw [drop_get q]
            exact pParts_bad rd acc _ he hn (h i hn)
      cases hn : numW w with
      | none =>
        have hnd : (numD w).isNone = true := by unfold numD; rw [hn]; rfl
        refine SWs.consK (SW.ife (TW.bool (AW.orCons (TW.cmpK (EW.name 3 rfl rfl (EW.cnone (⟨_, CmpS.isNone _, ifTd hnd (ifT ?_)⟩)))))))
        refine SWs.consK (SW.retK (EW.cnone ?_))
        show _ = _
        rw [hno fun i q => by rw [hn] at q; cases q]; rfl
      | some i =>
        have hnd : numD w = .int i := by unfold numD; rw [hn]
        rw [hnd]
        refine SWs.consK (SW.ife (TW.mono (Q := fun b => b = !(i != 0 && nameW nm && lastLt acc nm)) (TW.bool (AW.orCons (TW.cmpK (EW.name 3 rfl rfl (EW.cnone (⟨_, CmpS.isNone _, ifFd rfl (AW.orCons (TW.cmpK (EW.name 3 rfl rfl (EW.cint (⟨_, CmpS.eqI _ _, ?_⟩)))))⟩)))))) ?_))
        · cases hz : (i == 0) with
          | true => exact ifT (by rw [bne, hz]; rfl)
          | false =>
            have hz' : (i != 0) = true := by rw [bne, hz]; rfl
            refine ifF (AW.orCons (TW.not (TW.valK (EW.callK rfl (LW.consK (EW.name 4 rfl rfl (LW.nil ?_))) C.f_is_name.some))))
            refine Spec.eq (law_is_name_spec C n hnml) ?_ (Nat.le_refl _)
            refine ⟨_, TruS.bool _, ?_⟩
            rw [hz']
            cases hnw : nameW nm with
            | false => exact ifT rfl
            | true =>
              refine ifF (AW.orCons (TW.bool (AW.andCons (TW.cmpK (EW.name 1 rfl rfl (EW.listK (LW.nil (⟨_, .nil, (show 0 ≤ sizeLine by decide), ⟨_, CmpS.neNil, ?_⟩⟩))))))))
              cases hg : acc.getLast? with
              | none =>
                have : acc = [] := List.getLast?_eq_none_iff.mp hg
                subst this
                exact ifF (ifF (AW.orNil rfl))
              | some p =>
                have hne : (!(acc.map pD).isEmpty) = true := by
                  cases acc with
                  | nil => cases hg
                  | cons q acc => rfl
                refine ifTd hne (AW.andCons (TW.cmpK (EW.name 4 rfl rfl (EW.subK (EW.subK (EW.name 1 rfl rfl (EW.unK (EW.cint (⟨_, UnS.neg _, ⟨_, SubS.last (d := pD p) ?_, EW.cint (⟨_, SubS.tup (j := 0) (by decide) (by decide) rfl rfl, ⟨_, CmpS.leS _ _, ?_⟩⟩)⟩⟩)))))))))
                · rw [List.getLast?_map, hg]; rfl
                have hlt : lastLt acc nm = !sle nm p.1 := by unfold lastLt; rw [hg]
                rw [hlt]
                cases hs : sle nm p.1 with
                | true => exact ifT (AW.andNil (ifT rfl))
                | false => exact ifF (ifF (AW.orNil rfl))
        rintro _ rfl
        cases hb : (i != 0 && nameW nm && lastLt acc nm) with
        | false =>
          refine ifT (SWs.consK (SW.retK (EW.cnone ?_)))
          show _ = _
          rw [hno fun i' q => by rw [hn] at q; cases q; exact hb]; rfl
        | true =>
          refine ifF (SWs.nil ?_)
          have hv : ws[a + 1]? = some nm := by
            cases q : ws[a + 1]? with
            | none =>
              rw [q] at hnm
              have : ("" : Str) = nm := hnm
              subst this
              rw [nameW_nil] at hb; simp at hb
            | some v => rw [q] at hnm; have : v = nm := hnm; rw [this]
          have ha1 := get_lt hv
          refine SWs.consK (SW.appendK 1 rfl rfl (EW.tupleK (LW.consK (EW.name 4 rfl rfl (LW.consK (EW.name 3 rfl rfl (LW.nil (⟨_, .cons (.cons .nil), (show 2 ≤ sizeLine by decide), ⟨_, rfl, (by rw [List.length_map]; exact le_sz (Nat.le_of_lt (Nat.lt_of_le_of_lt e3 (Nat.lt_trans ha hl)))), ?_⟩⟩))))))))
          refine SWs.consK (SW.assignK 2 rfl (by decide) (by decide) (EW.binK (EW.name 2 rfl rfl (EW.cint (⟨_, BinS.add _ _, ⟨_, rfl, ?_⟩⟩)))))
          refine SWs.nil ⟨ws.length - (a + 2), by (first | lia | omega), a + 2, acc ++ [(nm, i)], some (.im (.int i)), some (.im (.str nm)), rfl, by (first | lia | omega), by simp; (first | lia | omega), by (first | lia | omega), ?_, ?_⟩
          · rw [e4, drop_get hwe, drop_get hv, pParts_next rd acc w nm _ he hn hb]
          · rw [List.map_append]; rfl
end Mine
end

section
open PySem PySem.W PyProof.Rows PySem.Calls PyProof
set_option Elab.async false
set_option maxHeartbeats 1600000
set_option maxRecDepth 100000
set_option linter.unusedVariables false
namespace Mine
variable {B : Bs}
noncomputable def AlIs (f : Nat) (ws : List Str) (q : Rs) : Prop := q = resD ((parse rd f ws).map fun q => (q.1.d, q.2))
noncomputable def PaIs (f : Nat) (ws : List Str) (q : Rs) : Prop := q = resD ((pConn rd (parse rd f) ws).map fun q => (.tup q.1.ds, q.2))
noncomputable def PaI (f : Nat) (ws : List Str) (win : Nat) (m : Int) (j : Nat) (ρ' : List (Option Sl)) : Prop := ∃ (acc : List St) (r : List Str), acc.length + j = m.toNat ∧ acc.length + r.length ≤ ws.length ∧ (∀ w ∈ r, w.length < 2 ^ 20) ∧
  pConn rd (parse rd f) ws = (pMany (parse rd f) j r).map (fun q => (preS acc q.1, q.2)) ∧
  ρ' = [some (.fz (.lst (ws.map .str))), some (.im (.int win)), some (.im (.int m)), some (.own (.lst (r.map .str))), some (.own (.lst (acc.map St.d))), none]
noncomputable def AlAt (B : Bs) (f n win : Nat) : Prop := ∀ ws : List Str, ws.length < 2 ^ 20 → (∀ w ∈ ws, w.length < 2 ^ 20) →
  Spec B "_law_along" NoX n [.ct (.lst (ws.map .str)), .im (.int win)] (AlIs f ws)
theorem law_parts_along_spec (C : Cx B) (n f : Nat) {win : Nat} (ih : AlAt B f (n + 1) win) {ws : List Str} (hl : ws.length < 2 ^ 20) (hw : ∀ w ∈ ws, w.length < 2 ^ 20) :
    Spec B "_law_parts_along" NoX (n + 2) [.ct (.lst (ws.map .str)), .im (.int win)] (PaIs f ws) := by
  refine Spec.of_body (F := F_parts_along) C.f_parts_along rfl (by decide) rfl ?_
  have hq := C.quiet
  have hsz : sizeLine = 16777216 := by decide
  -- _law_count = _law_number((_law_words_here + [''])[0])
  have hge := get_end (ws := ws) (a := 0) (Nat.zero_le _)
  generalize hw0 : (ws[0]?).getD ("" : Str) = w0 at hge
  have hw0l : w0.length < 2 ^ 20 := by
    cases q : ws[0]? with
    | none => rw [q] at hw0; subst hw0; decide
    | some v => rw [q] at hw0; subst hw0; exact hw v (List.mem_of_getElem? q)
  refine SWs.consK (SW.assignK 2 rfl (by decide) (by decide) (EW.callK rfl (LW.consK (EW.subK (EW.binK (EW.name 0 rfl rfl (EW.listK (LW.consK (EW.cstr (LW.nil (⟨_, .cons .nil, (show 1 ≤ sizeLine by decide), ⟨_, BinS.addL (by simp; (first | lia | omega)), EW.cint (⟨_, SubS.list (by decide) (by decide) hge, LW.nil ?_⟩)⟩⟩))))))))) C.f_number.some))
  refine Spec.eq (law_number_spec C n hw0l) ?_ (Nat.le_refl _)
  refine ⟨_, rfl, ?_⟩
  have hno : (∀ m, numW w0 = some m → m < 0) → pConn rd (parse rd f) ws = none := fun h => by
    cases ws with
    | nil => rfl
    | cons v r =>
      have : v = w0 := hw0
      subst this
      cases hn : numW v with
      | none => exact pConn_no rd _ _ hn
      | some m => exact pConn_neg rd _ _ hn (h m hn)
  cases hn : numW w0 with
  | none =>
    have hnd : (numD w0).isNone = true := by unfold numD; rw [hn]; rfl
    refine SWs.consK (SW.ife (TW.bool (AW.orCons (TW.cmpK (EW.name 2 rfl rfl (EW.cnone (⟨_, CmpS.isNone _, ifTd hnd (ifT ?_)⟩)))))))
    refine SWs.consK (SW.retK (EW.cnone ?_))
    show _ = _
    rw [hno fun m q => by rw [hn] at q; cases q]; rfl
  | some m =>
    have hnd : numD w0 = .int m := by unfold numD; rw [hn]
    rw [hnd]
    refine SWs.consK (SW.ife (TW.bool (AW.orCons (TW.cmpK (EW.name 2 rfl rfl (EW.cnone (⟨_, CmpS.isNone _, ifFd rfl (AW.orCons (TW.cmpK (EW.name 2 rfl rfl (EW.cint (⟨_, CmpS.ltI _ _, ?_⟩)))))⟩)))))))
    by_cases hm : m < 0
    · refine ifTd (decide_eq_true hm) (ifT (SWs.consK (SW.retK (EW.cnone ?_))))
      show _ = _
      rw [hno fun m' q => by rw [hn] at q; cases q; exact hm]; rfl
    refine ifFd (decide_eq_false hm) (AW.orNil (ifF (SWs.nil ?_)))
    have hS : pConn rd (parse rd f) ws = pMany (parse rd f) m.toNat (ws.drop 1) := by
      cases ws with
      | nil =>
        have : ("" : Str) = w0 := hw0
        subst this
        rw [numW_nil] at hn; cases hn
      | cons v r =>
        have : v = w0 := hw0
        subst this
        exact pConn_k rd _ _ hn hm
    have hpos : 1 ≤ ws.length := by
      cases ws with
      | nil =>
        have : ("" : Str) = w0 := hw0
        subst this
        rw [numW_nil] at hn; cases hn
      | cons v r => simp
    -- _law_rest_of = _law_words_here[1:]
    refine SWs.consK (SW.assignK 3 rfl (by decide) (by decide) (EW.sliceK (EW.name 0 rfl rfl (PW.someK (EW.cint (⟨_, rfl, PW.none (⟨_, SlcS.list (by rw [List.length_map]; (first | lia | omega)), ⟨_, rfl, ?_⟩⟩)⟩))))))
    rw [show pick (ws.map D.str) (some 1) none = (ws.drop 1).map .str from pick_from (k := 1)]
    -- _law_parts = []
    refine SWs.consK (SW.assignK 4 rfl (by decide) (by decide) (EW.listK (LW.nil (⟨_, .nil, (show 0 ≤ sizeLine by decide), ⟨_, rfl, ?_⟩⟩))))
    -- while len(_law_parts) < _law_count:
    refine SWs.consK (SW.whileK (PaI f ws win m) m.toNat ?_ ?_)
    · refine ⟨[], ws.drop 1, by simp, by rw [List.length_drop]; simp, fun w h => hw w (List.mem_of_mem_drop h), ?_, rfl⟩
      rw [hS]
      cases pMany (parse rd f) m.toNat (ws.drop 1) with
      | none => rfl
      | some q => rfl
    rintro j ρ' ⟨acc, r, e1, e2, e3, e4, rfl⟩
    refine TW.cmpK (EW.bcallK rfl C.b_len bb_len trivial (LW.consK (EW.name 4 rfl rfl (LW.nil (⟨_, BuiS.lenL (by rw [List.length_map]; (first | lia | omega)), EW.name 2 rfl rfl (⟨_, CmpS.ltI _ _, ?_⟩)⟩)))))
    rw [List.length_map]
    cases j with
    | zero =>
      refine ifFd (decide_eq_false (by (first | lia | omega))) (SWs.nil ?_)
      refine SWs.consK (SW.retK (EW.pairDK (LW.consK (EW.bcallK rfl C.b_tuple bb_tuple trivial (LW.consK (EW.name 4 rfl rfl (LW.nil (⟨_, BuiS.tupleL (by rw [List.length_map]; (first | lia | omega)), LW.consK (EW.name 3 rfl rfl (LW.nil (⟨_, _, _, rfl, ?_⟩)))⟩))))))))
      show _ = _
      rw [e4]
      show _ = resD (some (.tup (preS acc .nil).ds, r))
      rw [preS_ds, show Sts.nil.ds = [] from rfl, List.append_nil]
      rfl
    | succ j =>
      refine ifTd (decide_eq_true (by (first | lia | omega))) ?_
      -- _law_got = _law_along(_law_rest_of, _law_within_here)
      refine SWs.consK (SW.assignK 5 rfl (by decide) (by decide) (EW.callK rfl (LW.consK (EW.name 3 rfl rfl (LW.consK (EW.name 1 rfl rfl (LW.nil ?_))))) C.f_along.some))
      refine Spec.eq (ih r (by (first | lia | omega)) e3) ?_ (Nat.le_refl _)
      cases hp : parse rd f r with
      | none =>
        refine ⟨.im .none, rfl, ?_⟩
        refine SWs.consK (SW.ife (TW.cmpK (EW.name 5 rfl rfl (EW.cnone (⟨_, CmpS.isNone _, ifTd rfl ?_⟩)))))
        refine SWs.consK (SW.retK (EW.cnone ?_))
        show _ = _
        rw [e4, pMany_no _ j hp]; rfl
      | some q =>
        obtain ⟨s, r'⟩ := q
        obtain ⟨a1, a0, _, _⟩ := parse_len rd r.length f r s r' hp (Nat.le_refl _)
        refine ⟨.own (.pair s.d (r'.map .str)), rfl, ?_⟩
        refine SWs.consK (SW.ife (TW.cmpK (EW.name 5 rfl rfl (EW.cnone (⟨_, CmpS.isNoneC _ _, ifF (SWs.nil ?_)⟩)))))
        -- _law_parts.append(_law_got[0])
        refine SWs.consK (SW.appendK 4 rfl rfl (EW.subK (EW.name 5 rfl rfl (EW.cint (⟨_, SubS.pair0, ⟨_, rfl, (by rw [List.length_map]; (first | lia | omega)), ?_⟩⟩)))))
        -- _law_rest_of = _law_got[1]
        refine SWs.consK (SW.move 5 3 (by decide) rfl rfl (by decide) (EW.subK (EW.name 5 rfl rfl (EW.cint (⟨_, SubS.pair1, ⟨_, rfl, ?_⟩⟩)))))
        refine SWs.nil ⟨j, Nat.lt_succ_self _, acc ++ [s], r', by simp; (first | lia | omega), by simp; (first | lia | omega), fun w h => e3 w (a0.subset h), ?_, ?_⟩
        · rw [e4, pMany_k _ j hp, map_pre]
        · rw [List.map_append]; rfl
noncomputable abbrev alongB : List Stmt := bodyOf pw 39
noncomputable def gotSl : Option (D × List Str) → Sl
  | none => .im .none
  | some (d, r) => .own (.pair d (r.map .str))
theorem slD (o : Option (D × List Str)) : (resD o).av.sl = some (gotSl o) := by cases o <;> rfl
section
variable {n : Nat} {a0 a1 a3 a4 : Option Sl} {kind : Str} {Q : Fl → List (Option Sl) → Prop}
theorem sk4 (t1 : (kind == "above") = false) (t2 : (kind == "nought") = false) (h : SWs B F_along NoX n [a0, a1, some (.im (.str kind)), a3, a4] (alongB.drop 5) Q) : SWs B F_along NoX n [a0, a1, some (.im (.str kind)), a3, a4] (alongB.drop 4) Q :=
  SWs.consK (SW.ife (TW.bool (AW.orCons (TW.cmpK (EW.name 2 rfl rfl (EW.cstr (⟨_, CmpS.eqS _ _, ifFd t1 (AW.orCons (TW.cmpK (EW.name 2 rfl rfl (EW.cstr (⟨_, CmpS.eqS _ _, ifFd t2 (AW.orNil (ifF (SWs.nil h)))⟩)))))⟩)))))))
theorem sk5 (t3 : (kind == "goes") = false) (h : SWs B F_along NoX n [a0, a1, some (.im (.str kind)), a3, a4] (alongB.drop 6) Q) : SWs B F_along NoX n [a0, a1, some (.im (.str kind)), a3, a4] (alongB.drop 5) Q :=
  SWs.consK (SW.ife (TW.bool (AW.andCons (TW.cmpK (EW.name 2 rfl rfl (EW.cstr (⟨_, CmpS.eqS _ _, ifFd t3 (ifF (SWs.nil h))⟩)))))))
theorem sk6 (t4 : (kind == "not") = false) (h : SWs B F_along NoX n [a0, a1, some (.im (.str kind)), a3, a4] (alongB.drop 7) Q) : SWs B F_along NoX n [a0, a1, some (.im (.str kind)), a3, a4] (alongB.drop 6) Q :=
  SWs.consK (SW.ife (TW.cmpK (EW.name 2 rfl rfl (EW.cstr (⟨_, CmpS.eqS _ _, ifFd t4 (SWs.nil h)⟩)))))
theorem sk7 (t5 : (kind == "and") = false) (t6 : (kind == "or") = false) (h : SWs B F_along NoX n [a0, a1, some (.im (.str kind)), a3, a4] (alongB.drop 8) Q) : SWs B F_along NoX n [a0, a1, some (.im (.str kind)), a3, a4] (alongB.drop 7) Q :=
  SWs.consK (SW.ife (TW.bool (AW.orCons (TW.cmpK (EW.name 2 rfl rfl (EW.cstr (⟨_, CmpS.eqS _ _, ifFd t5 (AW.orCons (TW.cmpK (EW.name 2 rfl rfl (EW.cstr (⟨_, CmpS.eqS _ _, ifFd t6 (AW.orNil (ifF (SWs.nil h)))⟩)))))⟩)))))))
theorem sk8 (t7 : (kind == "some") = false) (t8 : (kind == "all") = false) (h : SWs B F_along NoX n [a0, a1, some (.im (.str kind)), a3, a4] (alongB.drop 9) Q) : SWs B F_along NoX n [a0, a1, some (.im (.str kind)), a3, a4] (alongB.drop 8) Q :=
  SWs.consK (SW.ife (TW.bool (AW.andCons (TW.bool (AW.orCons (TW.cmpK (EW.name 2 rfl rfl (EW.cstr (⟨_, CmpS.eqS _ _, ifFd t7 (AW.orCons (TW.cmpK (EW.name 2 rfl rfl (EW.cstr (⟨_, CmpS.eqS _ _, ifFd t8 (AW.orNil (ifF (ifF (SWs.nil h))))⟩)))))⟩)))))))))
theorem along_tail (C : Cx B) {a2 : Option Sl} {hs : List D} (hh : hs.length ≤ 2) (o : Option (D × List Str)) {Q : Rs → Prop} (h : Q (resD (o.map fun q => (.tup (hs ++ [q.1]), q.2)))) :
    SWs B F_along NoX n [a0, a1, a2, some (.im (.tup hs)), some (gotSl o)] (alongB.drop 9) (RetOk Q) := by
  have hsz : sizeLine = 16777216 := by decide
  cases o with
  | none =>
    refine SWs.consK (SW.ife (TW.cmpK (EW.name 4 rfl rfl (EW.cnone (⟨_, CmpS.isNone _, ifTd rfl ?_⟩)))))
    exact SWs.consK (SW.retK (EW.cnone h))
  | some q =>
    obtain ⟨d, r⟩ := q
    refine SWs.consK (SW.ife (TW.cmpK (EW.name 4 rfl rfl (EW.cnone (⟨_, CmpS.isNoneC _ _, ifF (SWs.nil ?_)⟩)))))
    exact SWs.consK (SW.retK (EW.pairDK (LW.consK (EW.binK (EW.name 3 rfl rfl (EW.tupleK (LW.consK (EW.subK (EW.name 4 rfl rfl (EW.cint (⟨_, SubS.pair0, LW.nil (⟨_, .cons .nil, (show 1 ≤ sizeLine by decide), ⟨_, BinS.addT (by simp; (first | lia | omega)), LW.consK (EW.subK (EW.name 4 rfl rfl (EW.cint (⟨_, SubS.pair1, LW.nil (⟨_, _, _, rfl, h⟩)⟩))))⟩⟩)⟩)))))))))))
end
theorem law_along_spec (C : Cx B) : ∀ (f n win : Nat), win + f = 40 → AlAt B f (n + 2 * f + 3) win
  | 0, n, win, hd, ws, hl, hw => by
    refine Spec.of_body (F := F_along) C.f_along rfl (by decide) rfl ?_
    refine SWs.consK (SW.ife (TW.mono (Q := fun b => b = true) (TW.bool (AW.orCons (TW.cmpK (EW.name 0 rfl rfl (EW.listK (LW.nil (⟨_, .nil, (show 0 ≤ sizeLine by decide), ⟨_, CmpS.eqNil, ?_⟩⟩))))))) ?_))
    · cases ws with
      | nil => exact ifT rfl
      | cons w ws => exact ifF (AW.orCons (TW.cmpK (EW.name 1 rfl rfl (EW.cint (⟨_, CmpS.eqI _ _, ifTd (by simp; (first | lia | omega)) rfl⟩)))))
    rintro _ rfl
    exact ifT (SWs.consK (SW.retK (EW.cnone rfl)))
  | f + 1, n, win, hd, ws, hl, hw => by
    have ih := law_along_spec C f n (win + 1) (by (first | lia | omega))
    refine Spec.of_body (F := F_along) C.f_along rfl (by decide) rfl ?_
    have hq := C.quiet
    have hsz : sizeLine = 16777216 := by decide
    have hn1 : n + 2 * (f + 1) + 2 = (n + 2 * f + 3) + 1 := by (first | lia | omega)
    show SWs B F_along _ (n + 2 * (f + 1) + 2) _ _ _
    rw [hn1]
    cases ws with
    | nil =>
      refine SWs.consK (SW.ife (TW.bool (AW.orCons (TW.cmpK (EW.name 0 rfl rfl (EW.listK (LW.nil (⟨_, .nil, (show 0 ≤ sizeLine by decide), ⟨_, CmpS.eqNil, ifT (ifT ?_)⟩⟩))))))))
      exact SWs.consK (SW.retK (EW.cnone rfl))
    | cons kind r =>
    rw [List.length_cons] at hl
    have hlr : r.length < 2 ^ 20 := by (first | lia | omega)
    have hwr : ∀ w ∈ r, w.length < 2 ^ 20 := fun w h => hw w (.tail _ h)
    have hp1 : pick ((kind :: r).map D.str) (some 1) none = r.map .str := pick_from (ws := kind :: r) (k := 1)
    have hp2 : pick ((kind :: r).map D.str) (some 2) none = (r.drop 1).map .str := pick_from (ws := kind :: r) (k := 2)
    have hlen : ((kind :: r).map D.str).length ≤ sizeLine := by rw [List.length_map, List.length_cons]; (first | lia | omega)
    have hlen2 : ((kind :: r).map D.str).length < 2 ^ 63 := by rw [List.length_map, List.length_cons]; (first | lia | omega)
    refine SWs.consK (SW.ife (TW.bool (AW.orCons (TW.cmpK (EW.name 0 rfl rfl (EW.listK (LW.nil (⟨_, .nil, (show 0 ≤ sizeLine by decide), ⟨_, CmpS.eqNil, ifF (AW.orCons (TW.cmpK (EW.name 1 rfl rfl (EW.cint (⟨_, CmpS.eqI _ _, ifFd (by simp; (first | lia | omega)) (AW.orNil (ifF (SWs.nil ?_)))⟩)))))⟩⟩))))))))
    refine SWs.consK (SW.assignK 2 rfl (by decide) (by decide) (EW.subK (EW.name 0 rfl rfl (EW.cint (⟨_, SubS.list (d := .str kind) (by decide) (by decide) rfl, ⟨_, rfl, ?_⟩⟩)))))
    refine SWs.consK (SW.assignK 3 rfl (by decide) (by decide) (EW.tupleK (LW.consK (EW.name 2 rfl rfl (LW.nil (⟨_, .cons .nil, (show 1 ≤ sizeLine by decide), ⟨_, rfl, ?_⟩⟩))))))
    refine SWs.consK (SW.assignK 4 rfl (by decide) (by decide) (EW.cnone (⟨_, rfl, ?_⟩)))
    have hP : parse rd (f + 1) (kind :: r) = pBody rd (parse rd f) r (kn kind) := parse_k rd f kind _ rfl
    show SWs B F_along NoX _ [some (.fz (.lst ((kind :: r).map .str))), some (.im (.int win)), some (.im (.str kind)), some (.im (.tup [.str kind])), some (gotSl none)] (alongB.drop 4) _
    cases hk : kn kind with
    | above =>
      have T := knT_of hk
      have hkw : kind = "above" := kn_word hk (by decide)
      have t1 : (kind == "above") = true := T.above
      refine SWs.consK (SW.ife (TW.bool (AW.orCons (TW.cmpK (EW.name 2 rfl rfl (EW.cstr (⟨_, CmpS.eqS _ _, ifTd t1 (ifT ?_)⟩)))))))
      refine SWs.consK (SW.assignK 4 rfl (by decide) (by decide) (EW.callK rfl (LW.consK (EW.sliceK (EW.name 0 rfl rfl (PW.someK (EW.cint (⟨_, rfl, PW.none (⟨_, SlcS.list hlen, LW.nil ?_⟩)⟩)))))) C.f_sum_along.some))
      rw [hp1]
      refine Spec.eq (law_sum_along_spec C (n + 2 * f + 2) hlr hwr) ?_ (Nat.le_refl _)
      refine ⟨_, slD _, SWs.nil ?_⟩
      refine sk5 T.goes (sk6 T.no (sk7 T.and_ T.or_ (sk8 T.some_ T.all_ (along_tail C (by simp) _ ?_))))
      show _ = _
      rw [hP, hk, pBody]
      cases pSum rd r with
      | none => rfl
      | some q => rw [hkw]; rfl
    | nought =>
      have T := knT_of hk
      have hkw : kind = "nought" := kn_word hk (by decide)
      have t1 : (kind == "above") = false := T.above
      have t2 : (kind == "nought") = true := T.nought
      refine SWs.consK (SW.ife (TW.bool (AW.orCons (TW.cmpK (EW.name 2 rfl rfl (EW.cstr (⟨_, CmpS.eqS _ _, ifFd t1 (AW.orCons (TW.cmpK (EW.name 2 rfl rfl (EW.cstr (⟨_, CmpS.eqS _ _, ifTd t2 (ifT ?_)⟩)))))⟩)))))))
      refine SWs.consK (SW.assignK 4 rfl (by decide) (by decide) (EW.callK rfl (LW.consK (EW.sliceK (EW.name 0 rfl rfl (PW.someK (EW.cint (⟨_, rfl, PW.none (⟨_, SlcS.list hlen, LW.nil ?_⟩)⟩)))))) C.f_sum_along.some))
      rw [hp1]
      refine Spec.eq (law_sum_along_spec C (n + 2 * f + 2) hlr hwr) ?_ (Nat.le_refl _)
      refine ⟨_, slD _, SWs.nil ?_⟩
      refine sk5 T.goes (sk6 T.no (sk7 T.and_ T.or_ (sk8 T.some_ T.all_ (along_tail C (by simp) _ ?_))))
      show _ = _
      rw [hP, hk, pBody]
      cases pSum rd r with
      | none => rfl
      | some q => rw [hkw]; rfl
    | goes =>
      have T := knT_of hk
      have hkw : kind = "goes" := kn_word hk (by decide)
      have t3 : (kind == "goes") = true := T.goes
      refine sk4 T.above T.nought ?_
      refine SWs.consK (SW.ife (TW.bool (AW.andCons (TW.cmpK (EW.name 2 rfl rfl (EW.cstr (⟨_, CmpS.eqS _ _, ifTd t3 (AW.andCons (TW.cmpK (EW.bcallK rfl C.b_len bb_len trivial (LW.consK (EW.name 0 rfl rfl (LW.nil (⟨_, BuiS.lenL hlen2, EW.cint (⟨_, CmpS.gtI _ _, ?_⟩)⟩)))))))⟩)))))))
      rw [List.length_map, List.length_cons]
      cases r with
      | nil =>
        refine ifFd (decide_eq_false (by simp)) (ifF (SWs.nil ?_))
        exact sk6 T.no (sk7 T.and_ T.or_ (sk8 T.some_ T.all_ (along_tail C (by simp) none (by show _ = _; rw [hP, hk]; rfl))))
      | cons w1 r2 =>
        have hw1l := hw w1 (.tail _ (.head _))
        have hg1 : ((kind :: w1 :: r2).map D.str)[(1 : Int).toNat]? = some (.str w1) := rfl
        have hd1 : ((w1 :: r2).drop 1) = r2 := rfl
        rw [hd1] at hp2
        refine ifTd (decide_eq_true (by simp; (first | lia | omega))) (AW.andCons (TW.cmpK (EW.or2 (EW.callK rfl (LW.consK (EW.subK (EW.name 0 rfl rfl (EW.cint (⟨_, SubS.list (by decide) (by decide) hg1, LW.nil ?_⟩))))) C.f_number.some))))
        refine Spec.eq (law_number_spec C (n + 2 * f + 3) hw1l) ?_ (Nat.le_refl _)
        cases hn : numW w1 with
        | none =>
          have hnd : numD w1 = .none := by unfold numD; rw [hn]
          rw [hnd]
          refine ⟨_, TruS.none, ifF (EW.cint (EW.cint (⟨_, CmpS.gtI _ _, ifF (ifF (SWs.nil ?_))⟩)))⟩
          refine sk6 T.no (sk7 T.and_ T.or_ (sk8 T.some_ T.all_ (along_tail C (by simp) none ?_)))
          show _ = _
          rw [hP, hk, pGoes_no rd _ _ hn]; rfl
        | some m =>
          have hnd : numD w1 = .int m := by unfold numD; rw [hn]
          rw [hnd]
          refine ⟨_, TruS.int m, ?_⟩
          by_cases hm : m < 1
          · have hlow : SWs B F_along NoX (n + 2 * f + 3 + 1) [some (.fz (.lst ((kind :: w1 :: r2).map .str))), some (.im (.int win)), some (.im (.str kind)), some (.im (.tup [.str kind])), some (gotSl none)] (alongB.drop 6)
                (RetOk (AlIs (f + 1) (kind :: w1 :: r2))) := by
              refine sk6 T.no (sk7 T.and_ T.or_ (sk8 T.some_ T.all_ (along_tail C (by simp) none ?_)))
              show _ = _
              rw [hP, hk, pGoes_low rd _ _ hn hm]; rfl
            by_cases hz : m = 0
            · refine ifFd (by rw [hz]; rfl) (EW.cint (EW.cint (⟨_, CmpS.gtI _ _, ifF (ifF (SWs.nil hlow))⟩)))
            · refine ifTd (by simpa using hz) (EW.cint (⟨_, CmpS.gtI _ _, ifFd (decide_eq_false (by (first | lia | omega))) (ifF (SWs.nil hlow))⟩))
          · refine ifTd (by simp; (first | lia | omega)) (EW.cint (⟨_, CmpS.gtI _ _, ifTd (decide_eq_true (by (first | lia | omega))) (AW.andNil (ifT ?_))⟩))
            refine SWs.consK (SW.assignK 3 rfl (by decide) (by decide) (EW.tupleK (LW.consK (EW.name 2 rfl rfl (LW.consK (EW.callK rfl (LW.consK (EW.subK (EW.name 0 rfl rfl (EW.cint (⟨_, SubS.list (by decide) (by decide) hg1, LW.nil ?_⟩))))) C.f_number.some))))))
            refine Spec.eq (law_number_spec C (n + 2 * f + 3) hw1l) ?_ (Nat.le_refl _)
            rw [hnd]
            refine LW.nil (⟨_, .cons (.cons .nil), (show 2 ≤ sizeLine by decide), ⟨_, rfl, ?_⟩⟩)
            refine SWs.consK (SW.assignK 4 rfl (by decide) (by decide) (EW.callK rfl (LW.consK (EW.sliceK (EW.name 0 rfl rfl (PW.someK (EW.cint (⟨_, rfl, PW.none (⟨_, SlcS.list hlen, LW.nil ?_⟩)⟩)))))) C.f_sum_along.some))
            rw [hp2]
            rw [List.length_cons] at hlr
            refine Spec.eq (law_sum_along_spec C (n + 2 * f + 2) (by (first | lia | omega)) (fun w h => hwr w (.tail _ h))) ?_ (Nat.le_refl _)
            refine ⟨_, slD _, SWs.nil ?_⟩
            refine sk6 T.no (sk7 T.and_ T.or_ (sk8 T.some_ T.all_ (along_tail C (by simp) _ ?_)))
            show _ = _
            rw [hP, hk, pGoes_k rd _ _ hn hm]
            cases pSum rd r2 with
            | none => rfl
            | some q => rw [hkw]; rfl
    | no =>
      have T := knT_of hk
      have hkw : kind = "not" := kn_word hk (by decide)
      have t4 : (kind == "not") = true := T.no
      refine sk4 T.above T.nought (sk5 T.goes ?_)
      refine SWs.consK (SW.ife (TW.cmpK (EW.name 2 rfl rfl (EW.cstr (⟨_, CmpS.eqS _ _, ifTd t4 ?_⟩)))))
      refine SWs.consK (SW.assignK 4 rfl (by decide) (by decide) (EW.callK rfl (LW.consK (EW.sliceK (EW.name 0 rfl rfl (PW.someK (EW.cint (⟨_, rfl, PW.none (⟨_, SlcS.list hlen, LW.consK (EW.binK (EW.name 1 rfl rfl (EW.cint (⟨_, BinS.add _ _, LW.nil ?_⟩))))⟩)⟩)))))) C.f_along.some))
      rw [hp1]
      refine Spec.eq (ih r hlr hwr) ?_ (Nat.le_succ _)
      refine ⟨_, slD _, SWs.nil ?_⟩
      refine sk7 T.and_ T.or_ (sk8 T.some_ T.all_ (along_tail C (by simp) _ ?_))
      show _ = _
      rw [hP, hk, pBody]
      cases parse rd f r with
      | none => rfl
      | some q => rw [hkw]; rfl
    | conn a =>
      have T := knT_of hk
      have hkw : kind = cw a := kn_word hk (by cases a <;> decide)
      refine sk4 T.above T.nought (sk5 T.goes (sk6 T.no ?_))
      refine SWs.consK (SW.ife (TW.mono (Q := fun b => b = true) (TW.bool (AW.orCons (TW.cmpK (EW.name 2 rfl rfl (EW.cstr (⟨_, CmpS.eqS _ _, ?_⟩)))))) ?_))
      · cases a with
        | true => exact ifTd T.and_ rfl
        | false => exact ifFd T.and_ (AW.orCons (TW.cmpK (EW.name 2 rfl rfl (EW.cstr (⟨_, CmpS.eqS _ _, ifTd T.or_ rfl⟩)))))
      rintro _ rfl
      refine ifT ?_
      refine SWs.consK (SW.assignK 4 rfl (by decide) (by decide) (EW.callK rfl (LW.consK (EW.sliceK (EW.name 0 rfl rfl (PW.someK (EW.cint (⟨_, rfl, PW.none (⟨_, SlcS.list hlen, LW.consK (EW.binK (EW.name 1 rfl rfl (EW.cint (⟨_, BinS.add _ _, LW.nil ?_⟩))))⟩)⟩)))))) C.f_parts_along.some))
      rw [hp1]
      refine Spec.eq (law_parts_along_spec C (n + 2 * f + 2) f (win := win + 1) ih hlr hwr) ?_ (Nat.le_refl _)
      refine ⟨_, slD _, SWs.nil ?_⟩
      refine sk8 T.some_ T.all_ (along_tail C (by simp) _ ?_)
      show _ = _
      rw [hP, hk, pBody_conn]
      cases pConn rd (parse rd f) r with
      | none => rfl
      | some q => rw [hkw]; rfl
    | bind e =>
      have T := knT_of hk
      have hkw : kind = bw e := kn_word hk (by cases e <;> decide)
      refine sk4 T.above T.nought (sk5 T.goes (sk6 T.no (sk7 T.and_ T.or_ ?_)))
      refine SWs.consK (SW.ife (TW.bool (AW.andCons (TW.mono (Q := fun b => b = true) (TW.bool (AW.orCons (TW.cmpK (EW.name 2 rfl rfl (EW.cstr (⟨_, CmpS.eqS _ _, ?_⟩)))))) ?_))))
      · cases e with
        | true => exact ifTd T.some_ rfl
        | false => exact ifFd T.some_ (AW.orCons (TW.cmpK (EW.name 2 rfl rfl (EW.cstr (⟨_, CmpS.eqS _ _, ifTd T.all_ rfl⟩)))))
      rintro _ rfl
      refine ifT (AW.andCons (TW.cmpK (EW.bcallK rfl C.b_len bb_len trivial (LW.consK (EW.name 0 rfl rfl (LW.nil (⟨_, BuiS.lenL hlen2, EW.cint (⟨_, CmpS.gtI _ _, ?_⟩)⟩)))))))
      rw [List.length_map, List.length_cons]
      cases r with
      | nil =>
        refine ifFd (decide_eq_false (by simp)) (ifF (SWs.nil ?_))
        exact along_tail C (by simp) none (by show _ = _; rw [hP, hk]; rfl)
      | cons w1 r2 =>
        have hw1l := hw w1 (.tail _ (.head _))
        have hg1 : ((kind :: w1 :: r2).map D.str)[(1 : Int).toNat]? = some (.str w1) := rfl
        have hd1 : ((w1 :: r2).drop 1) = r2 := rfl
        rw [hd1] at hp2
        refine ifTd (decide_eq_true (by simp; (first | lia | omega))) (AW.andCons (TW.valK (EW.callK rfl (LW.consK (EW.subK (EW.name 0 rfl rfl (EW.cint (⟨_, SubS.list (by decide) (by decide) hg1, LW.nil ?_⟩))))) C.f_is_name.some)))
        refine Spec.eq (law_is_name_spec C (n + 2 * f + 3) hw1l) ?_ (Nat.le_refl _)
        refine ⟨_, TruS.bool _, ?_⟩
        cases hn : nameW w1 with
        | false =>
          refine ifF (ifF (SWs.nil (along_tail C (by simp) none ?_)))
          show _ = _
          rw [hP, hk, pBind_no rd _ _ hn]; rfl
        | true =>
          refine ifT (AW.andNil (ifT ?_))
          refine SWs.consK (SW.assignK 3 rfl (by decide) (by decide) (EW.tupleK (LW.consK (EW.name 2 rfl rfl (LW.consK (EW.subK (EW.name 0 rfl rfl (EW.cint (⟨_, SubS.list (by decide) (by decide) hg1, LW.nil (⟨_, .cons (.cons .nil), (show 2 ≤ sizeLine by decide), ⟨_, rfl, ?_⟩⟩)⟩)))))))))
          refine SWs.consK (SW.assignK 4 rfl (by decide) (by decide) (EW.callK rfl (LW.consK (EW.sliceK (EW.name 0 rfl rfl (PW.someK (EW.cint (⟨_, rfl, PW.none (⟨_, SlcS.list hlen, LW.consK (EW.binK (EW.name 1 rfl rfl (EW.cint (⟨_, BinS.add _ _, LW.nil ?_⟩))))⟩)⟩)))))) C.f_along.some))
          rw [hp2]
          rw [List.length_cons] at hlr
          refine Spec.eq (ih r2 (by (first | lia | omega)) (fun w h => hwr w (.tail _ h))) ?_ (Nat.le_succ _)
          refine ⟨_, slD _, SWs.nil ?_⟩
          refine along_tail C (by simp) _ ?_
          show _ = _
          rw [hP, hk, pBind_k rd _ _ hn]
          cases parse rd f r2 with
          | none => rfl
          | some q => rw [hkw]; rfl
    | other =>
      have T := knT_of hk
      exact sk4 T.above T.nought (sk5 T.goes (sk6 T.no (sk7 T.and_ T.or_ (sk8 T.some_ T.all_ (along_tail C (by simp) none (by show _ = _; rw [hP, hk]; rfl))))))
end Mine
end

section
open PySem PySem.W PyProof.Rows PySem.Calls PyProof
set_option Elab.async false
set_option maxHeartbeats 1600000
set_option maxRecDepth 100000
set_option linter.unusedVariables false
namespace Mine
variable {B : Bs}
noncomputable def WsIs (s : St) (q : Rs) : Prop := q = .fr (.lst (s.ws.map .str))
noncomputable def SwIs (k : Int) (ps : List (Str × Int)) (q : Rs) : Prop := q = .fr (.lst ((sumWs k ps).map .str))
noncomputable def WiIs (s : St) (q : Rs) : Prop := q = .im (.int (s.wi : Nat))
noncomputable abbrev words_ofB : List Stmt := bodyOf pw 12
noncomputable abbrev wordsB : List Stmt := bodyOf pw 33
noncomputable abbrev withinB : List Stmt := bodyOf pw 34
section
variable {n : Nat} {a0 a2 a3 : Option Sl} {kind : Str} {Q : Fl → List (Option Sl) → Prop}
theorem words_of_sk1 (t0 : (kind == "above") = false) (t1 : (kind == "nought") = false) (h : SWs B F_words_of NoX n [a0, some (.im (.str kind)), a2, a3] (words_ofB.drop 2) Q) : SWs B F_words_of NoX n [a0, some (.im (.str kind)), a2, a3] (words_ofB.drop 1) Q :=
  SWs.consK (SW.ife (TW.bool (AW.orCons (TW.cmpK (EW.name 1 rfl rfl (EW.cstr (⟨_, CmpS.eqS _ _, ifFd t0 (AW.orCons (TW.cmpK (EW.name 1 rfl rfl (EW.cstr (⟨_, CmpS.eqS _ _, ifFd t1 (AW.orNil (ifF (SWs.nil h)))⟩)))))⟩)))))))
theorem words_of_sk2 (t0 : (kind == "goes") = false) (h : SWs B F_words_of NoX n [a0, some (.im (.str kind)), a2, a3] (words_ofB.drop 3) Q) : SWs B F_words_of NoX n [a0, some (.im (.str kind)), a2, a3] (words_ofB.drop 2) Q :=
  SWs.consK (SW.ife (TW.cmpK (EW.name 1 rfl rfl (EW.cstr (⟨_, CmpS.eqS _ _, ifFd t0 (SWs.nil h)⟩)))))
theorem words_of_sk3 (t0 : (kind == "not") = false) (h : SWs B F_words_of NoX n [a0, some (.im (.str kind)), a2, a3] (words_ofB.drop 4) Q) : SWs B F_words_of NoX n [a0, some (.im (.str kind)), a2, a3] (words_ofB.drop 3) Q :=
  SWs.consK (SW.ife (TW.cmpK (EW.name 1 rfl rfl (EW.cstr (⟨_, CmpS.eqS _ _, ifFd t0 (SWs.nil h)⟩)))))
theorem words_of_sk4 (t0 : (kind == "some") = false) (t1 : (kind == "all") = false) (h : SWs B F_words_of NoX n [a0, some (.im (.str kind)), a2, a3] (words_ofB.drop 5) Q) : SWs B F_words_of NoX n [a0, some (.im (.str kind)), a2, a3] (words_ofB.drop 4) Q :=
  SWs.consK (SW.ife (TW.bool (AW.orCons (TW.cmpK (EW.name 1 rfl rfl (EW.cstr (⟨_, CmpS.eqS _ _, ifFd t0 (AW.orCons (TW.cmpK (EW.name 1 rfl rfl (EW.cstr (⟨_, CmpS.eqS _ _, ifFd t1 (AW.orNil (ifF (SWs.nil h)))⟩)))))⟩)))))))
end
section
variable {n : Nat} {a0 a2 a3 : Option Sl} {kind : Str} {Q : Fl → List (Option Sl) → Prop}
theorem words_sk1 (t0 : (kind == "not") = false) (h : SWs B F_words NoX n [a0, some (.im (.str kind)), a2, a3] (wordsB.drop 2) Q) : SWs B F_words NoX n [a0, some (.im (.str kind)), a2, a3] (wordsB.drop 1) Q :=
  SWs.consK (SW.ife (TW.cmpK (EW.name 1 rfl rfl (EW.cstr (⟨_, CmpS.eqS _ _, ifFd t0 (SWs.nil h)⟩)))))
theorem words_sk2 (t0 : (kind == "some") = false) (t1 : (kind == "all") = false) (h : SWs B F_words NoX n [a0, some (.im (.str kind)), a2, a3] (wordsB.drop 3) Q) : SWs B F_words NoX n [a0, some (.im (.str kind)), a2, a3] (wordsB.drop 2) Q :=
  SWs.consK (SW.ife (TW.bool (AW.orCons (TW.cmpK (EW.name 1 rfl rfl (EW.cstr (⟨_, CmpS.eqS _ _, ifFd t0 (AW.orCons (TW.cmpK (EW.name 1 rfl rfl (EW.cstr (⟨_, CmpS.eqS _ _, ifFd t1 (AW.orNil (ifF (SWs.nil h)))⟩)))))⟩)))))))
theorem words_sk3 (t0 : (kind == "and") = false) (t1 : (kind == "or") = false) (h : SWs B F_words NoX n [a0, some (.im (.str kind)), a2, a3] (wordsB.drop 4) Q) : SWs B F_words NoX n [a0, some (.im (.str kind)), a2, a3] (wordsB.drop 3) Q :=
  SWs.consK (SW.ife (TW.bool (AW.orCons (TW.cmpK (EW.name 1 rfl rfl (EW.cstr (⟨_, CmpS.eqS _ _, ifFd t0 (AW.orCons (TW.cmpK (EW.name 1 rfl rfl (EW.cstr (⟨_, CmpS.eqS _ _, ifFd t1 (AW.orNil (ifF (SWs.nil h)))⟩)))))⟩)))))))
theorem words_sk4 (t0 : (kind == "goes") = false) (h : SWs B F_words NoX n [a0, some (.im (.str kind)), a2, a3] (wordsB.drop 5) Q) : SWs B F_words NoX n [a0, some (.im (.str kind)), a2, a3] (wordsB.drop 4) Q :=
  SWs.consK (SW.ife (TW.cmpK (EW.name 1 rfl rfl (EW.cstr (⟨_, CmpS.eqS _ _, ifFd t0 (SWs.nil h)⟩)))))
end
section
variable {n : Nat} {a0 a2 a3 : Option Sl} {kind : Str} {Q : Fl → List (Option Sl) → Prop}
theorem within_sk1 (t0 : (kind == "not") = false) (h : SWs B F_within NoX n [a0, some (.im (.str kind))] (withinB.drop 2) Q) : SWs B F_within NoX n [a0, some (.im (.str kind))] (withinB.drop 1) Q :=
  SWs.consK (SW.ife (TW.cmpK (EW.name 1 rfl rfl (EW.cstr (⟨_, CmpS.eqS _ _, ifFd t0 (SWs.nil h)⟩)))))
theorem within_sk2 (t0 : (kind == "some") = false) (t1 : (kind == "all") = false) (h : SWs B F_within NoX n [a0, some (.im (.str kind))] (withinB.drop 3) Q) : SWs B F_within NoX n [a0, some (.im (.str kind))] (withinB.drop 2) Q :=
  SWs.consK (SW.ife (TW.bool (AW.orCons (TW.cmpK (EW.name 1 rfl rfl (EW.cstr (⟨_, CmpS.eqS _ _, ifFd t0 (AW.orCons (TW.cmpK (EW.name 1 rfl rfl (EW.cstr (⟨_, CmpS.eqS _ _, ifFd t1 (AW.orNil (ifF (SWs.nil h)))⟩)))))⟩)))))))
theorem within_sk3 (t0 : (kind == "and") = false) (t1 : (kind == "or") = false) (h : SWs B F_within NoX n [a0, some (.im (.str kind))] (withinB.drop 4) Q) : SWs B F_within NoX n [a0, some (.im (.str kind))] (withinB.drop 3) Q :=
  SWs.consK (SW.ife (TW.bool (AW.orCons (TW.cmpK (EW.name 1 rfl rfl (EW.cstr (⟨_, CmpS.eqS _ _, ifFd t0 (AW.orCons (TW.cmpK (EW.name 1 rfl rfl (EW.cstr (⟨_, CmpS.eqS _ _, ifFd t1 (AW.orNil (ifF (SWs.nil h)))⟩)))))⟩)))))))
end
noncomputable def sum_wordsI (k : Int) (ps : List (Str × Int)) (rest : List D) (ρ' : List (Option Sl)) : Prop := ∃ (r : List (Str × Int)) (acc : List Str) (x y : Option Sl), rest = r.map pD ∧ acc ++ pairsWs r = numS k :: pairsWs ps ∧ (∀ p ∈ r, p.2.natAbs < 10 ^ 60) ∧ acc.length + 2 * r.length ≤ 24001 ∧
  ρ' = [some (.im (sumD k ps)), some (.own (.lst (acc.map .str))), x, y]
theorem sum_words_spec (C : Cx B) (n : Nat) {k : Int} {ps : List (Str × Int)} (hk : k.natAbs < 10 ^ 60) (hp : ∀ p ∈ ps, p.2.natAbs < 10 ^ 60) (hl : ps.length ≤ 12000) :
    Spec B "sum_words" NoX (n + 1) [.im (sumD k ps)] (SwIs k ps) := by
  refine Spec.of_body (F := F_sum_words) C.f_sum_words rfl (by decide) rfl ?_
  have hq := C.quiet
  have hsz : sizeLine = 16777216 := by decide
  refine SWs.consK (SW.assignK 1 rfl (by decide) (by decide) (EW.listK (LW.consK (EW.bcallK rfl C.b_str bb_str trivial (LW.consK (EW.subK (EW.name 0 rfl rfl (EW.cint (⟨_, SubS.tup (j := 0) (by decide) (by decide) rfl rfl, LW.nil (⟨_, BuiS.strI (log_ok hk), LW.nil (⟨_, .cons .nil, (show 1 ≤ sizeLine by decide), ⟨_, rfl, ?_⟩⟩)⟩)⟩)))))))))
  refine SWs.consK (SW.forK (EW.subK (EW.name 0 rfl rfl (EW.cint (⟨_, SubS.tup (j := 1) (by decide) (by decide) rfl rfl, ⟨_, IterS.tup,
    sum_wordsI k ps, ?_, ?_, ?_⟩⟩)))))
  · exact ⟨ps, [numS k], none, none, rfl, rfl, hp, by simp; (first | lia | omega), rfl⟩
  · rintro d rest ρ' ⟨r, acc, x, y, e1, e2, e3, e4, rfl⟩
    cases r with
    | nil => cases e1
    | cons p r =>
      cases e1
      rw [List.length_cons] at e4
      refine AsW.two 2 3 rfl rfl (by decide) (by decide) (by decide) (by decide) ?_
      refine SWs.consK (SW.assignK 1 rfl (by decide) (by decide) (EW.binK (EW.name 1 rfl rfl (EW.listK (LW.consK (EW.bcallK rfl C.b_str bb_str trivial (LW.consK (EW.name 3 rfl rfl (LW.nil (⟨_, BuiS.strI (log_ok (e3 p (.head _))), LW.consK (EW.name 2 rfl rfl (LW.nil (⟨_, .cons (.cons .nil), (show 2 ≤ sizeLine by decide), ⟨_, BinS.addL ?_, ⟨_, rfl, ?_⟩⟩⟩)))⟩))))))))))
      · rw [List.length_map]; show acc.length + 2 ≤ _; (first | lia | omega)
      refine SWs.nil ⟨r, acc ++ [numS p.2, p.1], some (.im (.str p.1)), some (.im (.int p.2)), rfl, ?_, fun q h => e3 q (.tail _ h), by simp; (first | lia | omega), ?_⟩
      · rw [← e2]; simp [pairsWs]
      · rw [List.map_append]; rfl
  · rintro ρ' ⟨r, acc, x, y, e1, e2, e3, e4, rfl⟩
    have : r = [] := by cases r with | nil => rfl | cons p r => cases e1
    subst this
    refine SWs.nil ?_
    refine SWs.consK (SW.retK (EW.binK (EW.name 1 rfl rfl (EW.listK (LW.consK (EW.cstr (LW.nil (⟨_, .cons .nil, (show 1 ≤ sizeLine by decide), ⟨_, BinS.addL ?_, ?_⟩⟩))))))))
    · rw [List.length_map]; show acc.length + 1 ≤ _; (first | lia | omega)
    show _ = _
    have e5 : acc = numS k :: pairsWs ps := by simpa [pairsWs] using e2
    rw [e5, sumWs, ← List.cons_append, List.map_append]; rfl
noncomputable def lsum_wordsI (k : Int) (ps : List (Str × Int)) (rest : List D) (ρ' : List (Option Sl)) : Prop := ∃ (r : List (Str × Int)) (acc : List Str) (x : Option Sl), rest = r.map pD ∧ acc ++ pairsWs r = numS k :: pairsWs ps ∧ (∀ p ∈ r, p.2.natAbs < 10 ^ 60) ∧ acc.length + 2 * r.length ≤ 24001 ∧
  ρ' = [some (.im (sumD k ps)), some (.own (.lst (acc.map .str))), x]
theorem lsum_words_spec (C : Cx B) (n : Nat) {k : Int} {ps : List (Str × Int)} (hk : k.natAbs < 10 ^ 60) (hp : ∀ p ∈ ps, p.2.natAbs < 10 ^ 60) (hl : ps.length ≤ 12000) :
    Spec B "_law_sum_words" NoX (n + 1) [.im (sumD k ps)] (SwIs k ps) := by
  refine Spec.of_body (F := F_lsum_words) C.f_lsum_words rfl (by decide) rfl ?_
  have hq := C.quiet
  have hsz : sizeLine = 16777216 := by decide
  refine SWs.consK (SW.assignK 1 rfl (by decide) (by decide) (EW.listK (LW.consK (EW.bcallK rfl C.b_str bb_str trivial (LW.consK (EW.subK (EW.name 0 rfl rfl (EW.cint (⟨_, SubS.tup (j := 0) (by decide) (by decide) rfl rfl, LW.nil (⟨_, BuiS.strI (log_ok hk), LW.nil (⟨_, .cons .nil, (show 1 ≤ sizeLine by decide), ⟨_, rfl, ?_⟩⟩)⟩)⟩)))))))))
  refine SWs.consK (SW.forK (EW.subK (EW.name 0 rfl rfl (EW.cint (⟨_, SubS.tup (j := 1) (by decide) (by decide) rfl rfl, ⟨_, IterS.tup,
    lsum_wordsI k ps, ?_, ?_, ?_⟩⟩)))))
  · exact ⟨ps, [numS k], none, rfl, rfl, hp, by simp; (first | lia | omega), rfl⟩
  · rintro d rest ρ' ⟨r, acc, x, e1, e2, e3, e4, rfl⟩
    cases r with
    | nil => cases e1
    | cons p r =>
      cases e1
      rw [List.length_cons] at e4
      refine AsW.name 2 rfl (by decide) (by decide) ?_
      refine SWs.consK (SW.assignK 1 rfl (by decide) (by decide) (EW.binK (EW.name 1 rfl rfl (EW.listK (LW.consK (EW.bcallK rfl C.b_str bb_str trivial (LW.consK (EW.subK (EW.name 2 rfl rfl (EW.cint (⟨_, SubS.tup (j := 1) (by decide) (by decide) rfl rfl, LW.nil (⟨_, BuiS.strI (log_ok (e3 p (.head _))), LW.consK (EW.subK (EW.name 2 rfl rfl (EW.cint (⟨_, SubS.tup (j := 0) (by decide) (by decide) rfl rfl, LW.nil (⟨_, .cons (.cons .nil), (show 2 ≤ sizeLine by decide), ⟨_, BinS.addL ?_, ⟨_, rfl, ?_⟩⟩⟩)⟩))))⟩)⟩)))))))))))
      · rw [List.length_map]; show acc.length + 2 ≤ _; (first | lia | omega)
      refine SWs.nil ⟨r, acc ++ [numS p.2, p.1], some (.im (pD p)), rfl, ?_, fun q h => e3 q (.tail _ h), by simp; (first | lia | omega), ?_⟩
      · rw [← e2]; simp [pairsWs]
      · rw [List.map_append]; rfl
  · rintro ρ' ⟨r, acc, x, e1, e2, e3, e4, rfl⟩
    have : r = [] := by cases r with | nil => rfl | cons p r => cases e1
    subst this
    refine SWs.nil ?_
    refine SWs.consK (SW.retK (EW.binK (EW.name 1 rfl rfl (EW.listK (LW.consK (EW.cstr (LW.nil (⟨_, .cons .nil, (show 1 ≤ sizeLine by decide), ⟨_, BinS.addL ?_, ?_⟩⟩))))))))
    · rw [List.length_map]; show acc.length + 1 ≤ _; (first | lia | omega)
    show _ = _
    have e5 : acc = numS k :: pairsWs ps := by simpa [pairsWs] using e2
    rw [e5, sumWs, ← List.cons_append, List.map_append]; rfl
noncomputable def words_ofI (a : Bool) (l : Sts) (N : Nat) (B : Bs) (rest : List D) (ρ' : List (Option Sl)) : Prop := ∃ (r : Sts) (acc : List Str) (x : Option Sl), rest = r.ds ∧ acc ++ r.ws = cw a :: numS l.len :: l.ws ∧ acc.length + r.ws.length ≤ 12000 ∧
  r.All (fun t => Spec B "words_of" NoX N [.im t.d] (WsIs t)) ∧
  ρ' = [some (.im (.tup [.str (cw a), .tup l.ds])), some (.im (.str (cw a))), some (.own (.lst (acc.map .str))), x]
theorem words_of_spec (C : Cx B) {ss : List Str} {M : Nat} (hM : M < 10 ^ 60) : ∀ s : St, s.Gd ss M → s.ws.length ≤ 12000 → ∀ n : Nat,
    Spec B "words_of" NoX (n + s.dp + 2) [.im s.d] (WsIs s) := by
  have hsz : sizeLine = 16777216 := by decide
  have hsum : ∀ {k : Int} {ps : List (Str × Int)} (n : Nat), GS ss M k ps → (sumWs k ps).length ≤ 12000 → Spec B "sum_words" NoX (n + 1) [.im (sumD k ps)] (SwIs k ps) :=
    fun n g hl => sum_words_spec C n (Nat.lt_of_le_of_lt g.kb hM) (fun p hp => Nat.lt_of_le_of_lt (g.bd p hp) hM) (by rw [sumWs_len] at hl; (first | lia | omega))
  refine St.ind ?_ ?_ ?_ ?_ ?_ ?_
  · intro k ps g hl n
    have hq := C.quiet
    refine Spec.of_body (F := F_words_of) C.f_words_of rfl (by decide) rfl ?_
    show SWs B F_words_of NoX _ (start F_words_of [.im (.tup [.str "above", sumD k ps])]) _ _
    refine SWs.consK (SW.assignK 1 rfl (by decide) (by decide) (EW.subK (EW.name 0 rfl rfl (EW.cint (⟨_, SubS.tup (j := 0) (by decide) (by decide) rfl rfl, ⟨_, rfl, ?_⟩⟩)))))
    show SWs B F_words_of NoX _ [some (.im (.tup [.str "above", sumD k ps])), some (.im (.str "above")), none, none] (words_ofB.drop 1) _
    have T := knT_of kn_above
    refine SWs.consK (SW.ife (TW.bool (AW.orCons (TW.cmpK (EW.name 1 rfl rfl (EW.cstr (⟨_, CmpS.eqS _ _, ifTd T.above (ifT ?_)⟩)))))))
    refine SWs.consK (SW.retK (EW.binK (EW.listK (LW.consK (EW.name 1 rfl rfl (LW.nil (⟨_, .cons .nil, (show 1 ≤ sizeLine by decide), EW.callK rfl (LW.consK (EW.subK (EW.name 0 rfl rfl (EW.cint (⟨_, SubS.tup (j := 1) (by decide) (by decide) rfl rfl, LW.nil ?_⟩))))) C.f_sum_words.some⟩)))))))
    rw [St.ws, List.length_cons] at hl
    refine Spec.eq (hsum n g (by (first | lia | omega))) ?_ (by (first | lia | omega))
    refine ⟨_, BinS.addL (by simp only [List.length_map, List.length_cons, List.length_nil]; (first | lia | omega)), ?_⟩
    show _ = _
    rfl
  · intro k ps g hl n
    have hq := C.quiet
    refine Spec.of_body (F := F_words_of) C.f_words_of rfl (by decide) rfl ?_
    show SWs B F_words_of NoX _ (start F_words_of [.im (.tup [.str "nought", sumD k ps])]) _ _
    refine SWs.consK (SW.assignK 1 rfl (by decide) (by decide) (EW.subK (EW.name 0 rfl rfl (EW.cint (⟨_, SubS.tup (j := 0) (by decide) (by decide) rfl rfl, ⟨_, rfl, ?_⟩⟩)))))
    show SWs B F_words_of NoX _ [some (.im (.tup [.str "nought", sumD k ps])), some (.im (.str "nought")), none, none] (words_ofB.drop 1) _
    have T := knT_of kn_nought
    refine SWs.consK (SW.ife (TW.bool (AW.orCons (TW.cmpK (EW.name 1 rfl rfl (EW.cstr (⟨_, CmpS.eqS _ _, ifFd T.above (AW.orCons (TW.cmpK (EW.name 1 rfl rfl (EW.cstr (⟨_, CmpS.eqS _ _, ifTd T.nought (ifT ?_)⟩)))))⟩)))))))
    refine SWs.consK (SW.retK (EW.binK (EW.listK (LW.consK (EW.name 1 rfl rfl (LW.nil (⟨_, .cons .nil, (show 1 ≤ sizeLine by decide), EW.callK rfl (LW.consK (EW.subK (EW.name 0 rfl rfl (EW.cint (⟨_, SubS.tup (j := 1) (by decide) (by decide) rfl rfl, LW.nil ?_⟩))))) C.f_sum_words.some⟩)))))))
    rw [St.ws, List.length_cons] at hl
    refine Spec.eq (hsum n g (by (first | lia | omega))) ?_ (by (first | lia | omega))
    refine ⟨_, BinS.addL (by simp only [List.length_map, List.length_cons, List.length_nil]; (first | lia | omega)), ?_⟩
    show _ = _
    rfl
  · intro m k ps g hl n
    have hq := C.quiet
    refine Spec.of_body (F := F_words_of) C.f_words_of rfl (by decide) rfl ?_
    show SWs B F_words_of NoX _ (start F_words_of [.im (.tup [.str "goes", .int m, sumD k ps])]) _ _
    refine SWs.consK (SW.assignK 1 rfl (by decide) (by decide) (EW.subK (EW.name 0 rfl rfl (EW.cint (⟨_, SubS.tup (j := 0) (by decide) (by decide) rfl rfl, ⟨_, rfl, ?_⟩⟩)))))
    show SWs B F_words_of NoX _ [some (.im (.tup [.str "goes", .int m, sumD k ps])), some (.im (.str "goes")), none, none] (words_ofB.drop 1) _
    have T := knT_of kn_goes
    refine words_of_sk1 T.above T.nought ?_
    refine SWs.consK (SW.ife (TW.cmpK (EW.name 1 rfl rfl (EW.cstr (⟨_, CmpS.eqS _ _, ifTd T.goes ?_⟩)))))
    refine SWs.consK (SW.retK (EW.binK (EW.listK (LW.consK (EW.name 1 rfl rfl (LW.consK (EW.bcallK rfl C.b_str bb_str trivial (LW.consK (EW.subK (EW.name 0 rfl rfl (EW.cint (⟨_, SubS.tup (j := 1) (by decide) (by decide) rfl rfl, LW.nil (⟨_, BuiS.strI (log_ok (Nat.lt_of_le_of_lt g.1.2 hM)), LW.nil (⟨_, .cons (.cons .nil), (show 2 ≤ sizeLine by decide), EW.callK rfl (LW.consK (EW.subK (EW.name 0 rfl rfl (EW.cint (⟨_, SubS.tup (j := 2) (by decide) (by decide) rfl rfl, LW.nil ?_⟩))))) C.f_sum_words.some⟩)⟩)⟩))))))))))))
    rw [St.ws, List.length_cons, List.length_cons] at hl
    refine Spec.eq (hsum n g.2 (by (first | lia | omega))) ?_ (by (first | lia | omega))
    refine ⟨_, BinS.addL (by simp only [List.length_map, List.length_cons, List.length_nil]; (first | lia | omega)), ?_⟩
    show _ = _
    rfl
  · intro s ih g hl n
    have hq := C.quiet
    refine Spec.of_body (F := F_words_of) C.f_words_of rfl (by decide) rfl ?_
    show SWs B F_words_of NoX _ (start F_words_of [.im (.tup [.str "not", s.d])]) _ _
    refine SWs.consK (SW.assignK 1 rfl (by decide) (by decide) (EW.subK (EW.name 0 rfl rfl (EW.cint (⟨_, SubS.tup (j := 0) (by decide) (by decide) rfl rfl, ⟨_, rfl, ?_⟩⟩)))))
    show SWs B F_words_of NoX _ [some (.im (.tup [.str "not", s.d])), some (.im (.str "not")), none, none] (words_ofB.drop 1) _
    have T := knT_of kn_not
    refine words_of_sk1 T.above T.nought ?_
    refine words_of_sk2 T.goes ?_
    refine SWs.consK (SW.ife (TW.cmpK (EW.name 1 rfl rfl (EW.cstr (⟨_, CmpS.eqS _ _, ifTd T.no ?_⟩)))))
    refine SWs.consK (SW.retK (EW.binK (EW.listK (LW.consK (EW.name 1 rfl rfl (LW.nil (⟨_, .cons .nil, (show 1 ≤ sizeLine by decide), EW.callK rfl (LW.consK (EW.subK (EW.name 0 rfl rfl (EW.cint (⟨_, SubS.tup (j := 1) (by decide) (by decide) rfl rfl, LW.nil ?_⟩))))) C.f_words_of.some⟩)))))))
    rw [St.ws, List.length_cons] at hl
    refine (ih g (by (first | lia | omega)) n).mono (by have : (St.neg s).dp = s.dp + 1 := rfl; (first | lia | omega)) ?_ (fun _ x => x)
    rintro _ rfl
    refine ⟨_, BinS.addL (by simp only [List.length_map, List.length_cons, List.length_nil]; (first | lia | omega)), ?_⟩
    show _ = _
    rfl
  · intro a l ih g hl n
    have hq := C.quiet
    refine Spec.of_body (F := F_words_of) C.f_words_of rfl (by decide) rfl ?_
    show SWs B F_words_of NoX _ (start F_words_of [.im (.tup [.str (cw a), .tup l.ds])]) _ _
    refine SWs.consK (SW.assignK 1 rfl (by decide) (by decide) (EW.subK (EW.name 0 rfl rfl (EW.cint (⟨_, SubS.tup (j := 0) (by decide) (by decide) rfl rfl, ⟨_, rfl, ?_⟩⟩)))))
    show SWs B F_words_of NoX _ [some (.im (.tup [.str (cw a), .tup l.ds])), some (.im (.str (cw a))), none, none] (words_ofB.drop 1) _
    have T := knT_of (kn_cw a)
    refine words_of_sk1 T.above T.nought ?_
    refine words_of_sk2 T.goes ?_
    refine words_of_sk3 T.no ?_
    refine words_of_sk4 T.some_ T.all_ ?_
    rw [St.ws, List.length_cons, List.length_cons] at hl
    refine SWs.consK (SW.assignK 2 rfl (by decide) (by decide) (EW.listK (LW.consK (EW.name 1 rfl rfl (LW.consK (EW.bcallK rfl C.b_str bb_str trivial (LW.consK (EW.bcallK rfl C.b_len bb_len trivial (LW.consK (EW.subK (EW.name 0 rfl rfl (EW.cint (⟨_, SubS.tup (j := 1) (by decide) (by decide) rfl rfl, LW.nil (⟨_, BuiS.lenT (by rw [Sts.ds_len]; have := g.1; (first | lia | omega)), LW.nil (⟨_, BuiS.strI (log_ok ?_), LW.nil (⟨_, .cons (.cons .nil), (show 2 ≤ sizeLine by decide), ⟨_, rfl, ?_⟩⟩)⟩)⟩)⟩)))))))))))))
    · rw [Sts.ds_len]
      have := g.1
      have e : (10 : Nat) ^ 60 = 1000000000000000000000000000000000000000000000000000000000000 := by decide
      (first | lia | omega)
    rw [Sts.ds_len]
    refine SWs.consK (SW.forK (EW.subK (EW.name 0 rfl rfl (EW.cint (⟨_, SubS.tup (j := 1) (by decide) (by decide) rfl rfl, ⟨_, IterS.tup,
      words_ofI a l (n + (l.dp + 1) + 1) B, ?_, ?_, ?_⟩⟩)))))
    · refine ⟨l, [cw a, numS l.len], none, rfl, rfl, by show 2 + l.ws.length ≤ 12000; (first | lia | omega), (((ih.and (Sts.Gd.all g.2)).and (Sts.dp_all l (Nat.le_refl _))).and (ws_all (N := 12000) (by (first | lia | omega)))).imp fun t h => ?_, rfl⟩
      exact (h.1.1.1 h.1.1.2 h.2 n).mono (by have := h.1.2; (first | lia | omega)) (fun _ x => x) (fun _ x => x)
    · rintro d rest ρ' ⟨r, acc, x, e1, e2, e3, e4, rfl⟩
      cases r with
      | nil => cases e1
      | cons t r =>
        cases e1
        rw [Sts.ws, List.length_append] at e3
        refine AsW.name 3 rfl (by decide) (by decide) ?_
        refine SWs.consK (SW.assignK 2 rfl (by decide) (by decide) (EW.binK (EW.name 2 rfl rfl (EW.callK rfl (LW.consK (EW.name 3 rfl rfl (LW.nil ?_))) C.f_words_of.some))))
        refine Spec.eq e4.1 ?_ (Nat.le_refl _)
        refine ⟨_, BinS.addL (by simp only [List.length_map]; (first | lia | omega)), ⟨_, rfl, ?_⟩⟩
        refine SWs.nil ⟨r, acc ++ t.ws, some (.im t.d), rfl, ?_, by rw [List.length_append]; (first | lia | omega), e4.2, ?_⟩
        · rw [← e2, Sts.ws, List.append_assoc]
        · rw [List.map_append]; rfl
    · rintro ρ' ⟨r, acc, x, e1, e2, e3, e4, rfl⟩
      have : r = .nil := by cases r with | nil => rfl | cons p r => cases e1
      subst this
      refine SWs.nil ?_
      refine SWs.consK (SW.retK (EW.name 2 rfl rfl ?_))
      show _ = _
      rw [show acc = (St.conn a l).ws by rw [St.ws, ← e2, Sts.ws, List.append_nil]]
  · intro e nm s ih g hl n
    have hq := C.quiet
    refine Spec.of_body (F := F_words_of) C.f_words_of rfl (by decide) rfl ?_
    show SWs B F_words_of NoX _ (start F_words_of [.im (.tup [.str (bw e), .str nm, s.d])]) _ _
    refine SWs.consK (SW.assignK 1 rfl (by decide) (by decide) (EW.subK (EW.name 0 rfl rfl (EW.cint (⟨_, SubS.tup (j := 0) (by decide) (by decide) rfl rfl, ⟨_, rfl, ?_⟩⟩)))))
    show SWs B F_words_of NoX _ [some (.im (.tup [.str (bw e), .str nm, s.d])), some (.im (.str (bw e))), none, none] (words_ofB.drop 1) _
    have T := knT_of (kn_bw e)
    refine words_of_sk1 T.above T.nought ?_
    refine words_of_sk2 T.goes ?_
    refine words_of_sk3 T.no ?_
    refine SWs.consK (SW.ife (TW.mono (Q := fun b => b = true) (TW.bool (AW.orCons (TW.cmpK (EW.name 1 rfl rfl (EW.cstr (⟨_, CmpS.eqS _ _, ?_⟩)))))) ?_))
    · cases e with
      | true => exact ifTd T.some_ rfl
      | false => exact ifFd T.some_ (AW.orCons (TW.cmpK (EW.name 1 rfl rfl (EW.cstr (⟨_, CmpS.eqS _ _, ifTd T.all_ rfl⟩)))))
    rintro _ rfl
    refine ifT ?_
    refine SWs.consK (SW.retK (EW.binK (EW.listK (LW.consK (EW.name 1 rfl rfl (LW.consK (EW.subK (EW.name 0 rfl rfl (EW.cint (⟨_, SubS.tup (j := 1) (by decide) (by decide) rfl rfl, LW.nil (⟨_, .cons (.cons .nil), (show 2 ≤ sizeLine by decide), EW.callK rfl (LW.consK (EW.subK (EW.name 0 rfl rfl (EW.cint (⟨_, SubS.tup (j := 2) (by decide) (by decide) rfl rfl, LW.nil ?_⟩))))) C.f_words_of.some⟩)⟩))))))))))
    rw [St.ws, List.length_cons, List.length_cons] at hl
    refine (ih g.2 (by (first | lia | omega)) n).mono (by have : (St.bind e nm s).dp = s.dp + 1 := rfl; (first | lia | omega)) ?_ (fun _ x => x)
    rintro _ rfl
    refine ⟨_, BinS.addL (by simp only [List.length_map, List.length_cons, List.length_nil]; (first | lia | omega)), ?_⟩
    show _ = _
    rfl
noncomputable def wordsI (a : Bool) (l : Sts) (N : Nat) (B : Bs) (rest : List D) (ρ' : List (Option Sl)) : Prop := ∃ (r : Sts) (acc : List Str) (x : Option Sl), rest = r.ds ∧ acc ++ r.ws = cw a :: numS l.len :: l.ws ∧ acc.length + r.ws.length ≤ 12000 ∧
  r.All (fun t => Spec B "_law_words" NoX N [.im t.d] (WsIs t)) ∧
  ρ' = [some (.im (.tup [.str (cw a), .tup l.ds])), some (.im (.str (cw a))), some (.own (.lst (acc.map .str))), x]
theorem words_spec (C : Cx B) {ss : List Str} {M : Nat} (hM : M < 10 ^ 60) : ∀ s : St, s.Gd ss M → s.ws.length ≤ 12000 → ∀ n : Nat,
    Spec B "_law_words" NoX (n + s.dp + 2) [.im s.d] (WsIs s) := by
  have hsz : sizeLine = 16777216 := by decide
  have hsum : ∀ {k : Int} {ps : List (Str × Int)} (n : Nat), GS ss M k ps → (sumWs k ps).length ≤ 12000 → Spec B "_law_sum_words" NoX (n + 1) [.im (sumD k ps)] (SwIs k ps) :=
    fun n g hl => lsum_words_spec C n (Nat.lt_of_le_of_lt g.kb hM) (fun p hp => Nat.lt_of_le_of_lt (g.bd p hp) hM) (by rw [sumWs_len] at hl; (first | lia | omega))
  refine St.ind ?_ ?_ ?_ ?_ ?_ ?_
  · intro k ps g hl n
    have hq := C.quiet
    refine Spec.of_body (F := F_words) C.f_words rfl (by decide) rfl ?_
    show SWs B F_words NoX _ (start F_words [.im (.tup [.str "above", sumD k ps])]) _ _
    refine SWs.consK (SW.assignK 1 rfl (by decide) (by decide) (EW.subK (EW.name 0 rfl rfl (EW.cint (⟨_, SubS.tup (j := 0) (by decide) (by decide) rfl rfl, ⟨_, rfl, ?_⟩⟩)))))
    show SWs B F_words NoX _ [some (.im (.tup [.str "above", sumD k ps])), some (.im (.str "above")), none, none] (wordsB.drop 1) _
    have T := knT_of kn_above
    refine words_sk1 T.no ?_
    refine words_sk2 T.some_ T.all_ ?_
    refine words_sk3 T.and_ T.or_ ?_
    refine words_sk4 T.goes ?_
    refine SWs.consK (SW.retK (EW.binK (EW.listK (LW.consK (EW.name 1 rfl rfl (LW.nil (⟨_, .cons .nil, (show 1 ≤ sizeLine by decide), EW.callK rfl (LW.consK (EW.subK (EW.name 0 rfl rfl (EW.cint (⟨_, SubS.tup (j := 1) (by decide) (by decide) rfl rfl, LW.nil ?_⟩))))) C.f_lsum_words.some⟩)))))))
    rw [St.ws, List.length_cons] at hl
    refine Spec.eq (hsum n g (by (first | lia | omega))) ?_ (by (first | lia | omega))
    refine ⟨_, BinS.addL (by simp only [List.length_map, List.length_cons, List.length_nil]; (first | lia | omega)), ?_⟩
    show _ = _
    rfl
  · intro k ps g hl n
    have hq := C.quiet
    refine Spec.of_body (F := F_words) C.f_words rfl (by decide) rfl ?_
    show SWs B F_words NoX _ (start F_words [.im (.tup [.str "nought", sumD k ps])]) _ _
    refine SWs.consK (SW.assignK 1 rfl (by decide) (by decide) (EW.subK (EW.name 0 rfl rfl (EW.cint (⟨_, SubS.tup (j := 0) (by decide) (by decide) rfl rfl, ⟨_, rfl, ?_⟩⟩)))))
    show SWs B F_words NoX _ [some (.im (.tup [.str "nought", sumD k ps])), some (.im (.str "nought")), none, none] (wordsB.drop 1) _
    have T := knT_of kn_nought
    refine words_sk1 T.no ?_
    refine words_sk2 T.some_ T.all_ ?_
    refine words_sk3 T.and_ T.or_ ?_
    refine words_sk4 T.goes ?_
    refine SWs.consK (SW.retK (EW.binK (EW.listK (LW.consK (EW.name 1 rfl rfl (LW.nil (⟨_, .cons .nil, (show 1 ≤ sizeLine by decide), EW.callK rfl (LW.consK (EW.subK (EW.name 0 rfl rfl (EW.cint (⟨_, SubS.tup (j := 1) (by decide) (by decide) rfl rfl, LW.nil ?_⟩))))) C.f_lsum_words.some⟩)))))))
    rw [St.ws, List.length_cons] at hl
    refine Spec.eq (hsum n g (by (first | lia | omega))) ?_ (by (first | lia | omega))
    refine ⟨_, BinS.addL (by simp only [List.length_map, List.length_cons, List.length_nil]; (first | lia | omega)), ?_⟩
    show _ = _
    rfl
  · intro m k ps g hl n
    have hq := C.quiet
    refine Spec.of_body (F := F_words) C.f_words rfl (by decide) rfl ?_
    show SWs B F_words NoX _ (start F_words [.im (.tup [.str "goes", .int m, sumD k ps])]) _ _
    refine SWs.consK (SW.assignK 1 rfl (by decide) (by decide) (EW.subK (EW.name 0 rfl rfl (EW.cint (⟨_, SubS.tup (j := 0) (by decide) (by decide) rfl rfl, ⟨_, rfl, ?_⟩⟩)))))
    show SWs B F_words NoX _ [some (.im (.tup [.str "goes", .int m, sumD k ps])), some (.im (.str "goes")), none, none] (wordsB.drop 1) _
    have T := knT_of kn_goes
    refine words_sk1 T.no ?_
    refine words_sk2 T.some_ T.all_ ?_
    refine words_sk3 T.and_ T.or_ ?_
    refine SWs.consK (SW.ife (TW.cmpK (EW.name 1 rfl rfl (EW.cstr (⟨_, CmpS.eqS _ _, ifTd T.goes ?_⟩)))))
    refine SWs.consK (SW.retK (EW.binK (EW.listK (LW.consK (EW.cstr (LW.consK (EW.bcallK rfl C.b_str bb_str trivial (LW.consK (EW.subK (EW.name 0 rfl rfl (EW.cint (⟨_, SubS.tup (j := 1) (by decide) (by decide) rfl rfl, LW.nil (⟨_, BuiS.strI (log_ok (Nat.lt_of_le_of_lt g.1.2 hM)), LW.nil (⟨_, .cons (.cons .nil), (show 2 ≤ sizeLine by decide), EW.callK rfl (LW.consK (EW.subK (EW.name 0 rfl rfl (EW.cint (⟨_, SubS.tup (j := 2) (by decide) (by decide) rfl rfl, LW.nil ?_⟩))))) C.f_lsum_words.some⟩)⟩)⟩))))))))))))
    rw [St.ws, List.length_cons, List.length_cons] at hl
    refine Spec.eq (hsum n g.2 (by (first | lia | omega))) ?_ (by (first | lia | omega))
    refine ⟨_, BinS.addL (by simp only [List.length_map, List.length_cons, List.length_nil]; (first | lia | omega)), ?_⟩
    show _ = _
    rfl
  · intro s ih g hl n
    have hq := C.quiet
    refine Spec.of_body (F := F_words) C.f_words rfl (by decide) rfl ?_
    show SWs B F_words NoX _ (start F_words [.im (.tup [.str "not", s.d])]) _ _
    refine SWs.consK (SW.assignK 1 rfl (by decide) (by decide) (EW.subK (EW.name 0 rfl rfl (EW.cint (⟨_, SubS.tup (j := 0) (by decide) (by decide) rfl rfl, ⟨_, rfl, ?_⟩⟩)))))
    show SWs B F_words NoX _ [some (.im (.tup [.str "not", s.d])), some (.im (.str "not")), none, none] (wordsB.drop 1) _
    have T := knT_of kn_not
    refine SWs.consK (SW.ife (TW.cmpK (EW.name 1 rfl rfl (EW.cstr (⟨_, CmpS.eqS _ _, ifTd T.no ?_⟩)))))
    refine SWs.consK (SW.retK (EW.binK (EW.listK (LW.consK (EW.cstr (LW.nil (⟨_, .cons .nil, (show 1 ≤ sizeLine by decide), EW.callK rfl (LW.consK (EW.subK (EW.name 0 rfl rfl (EW.cint (⟨_, SubS.tup (j := 1) (by decide) (by decide) rfl rfl, LW.nil ?_⟩))))) C.f_words.some⟩)))))))
    rw [St.ws, List.length_cons] at hl
    refine (ih g (by (first | lia | omega)) n).mono (by have : (St.neg s).dp = s.dp + 1 := rfl; (first | lia | omega)) ?_ (fun _ x => x)
    rintro _ rfl
    refine ⟨_, BinS.addL (by simp only [List.length_map, List.length_cons, List.length_nil]; (first | lia | omega)), ?_⟩
    show _ = _
    rfl
  · intro a l ih g hl n
    have hq := C.quiet
    refine Spec.of_body (F := F_words) C.f_words rfl (by decide) rfl ?_
    show SWs B F_words NoX _ (start F_words [.im (.tup [.str (cw a), .tup l.ds])]) _ _
    refine SWs.consK (SW.assignK 1 rfl (by decide) (by decide) (EW.subK (EW.name 0 rfl rfl (EW.cint (⟨_, SubS.tup (j := 0) (by decide) (by decide) rfl rfl, ⟨_, rfl, ?_⟩⟩)))))
    show SWs B F_words NoX _ [some (.im (.tup [.str (cw a), .tup l.ds])), some (.im (.str (cw a))), none, none] (wordsB.drop 1) _
    have T := knT_of (kn_cw a)
    refine words_sk1 T.no ?_
    refine words_sk2 T.some_ T.all_ ?_
    refine SWs.consK (SW.ife (TW.mono (Q := fun b => b = true) (TW.bool (AW.orCons (TW.cmpK (EW.name 1 rfl rfl (EW.cstr (⟨_, CmpS.eqS _ _, ?_⟩)))))) ?_))
    · cases a with
      | true => exact ifTd T.and_ rfl
      | false => exact ifFd T.and_ (AW.orCons (TW.cmpK (EW.name 1 rfl rfl (EW.cstr (⟨_, CmpS.eqS _ _, ifTd T.or_ rfl⟩)))))
    rintro _ rfl
    refine ifT ?_
    rw [St.ws, List.length_cons, List.length_cons] at hl
    refine SWs.consK (SW.assignK 2 rfl (by decide) (by decide) (EW.listK (LW.consK (EW.name 1 rfl rfl (LW.consK (EW.bcallK rfl C.b_str bb_str trivial (LW.consK (EW.bcallK rfl C.b_len bb_len trivial (LW.consK (EW.subK (EW.name 0 rfl rfl (EW.cint (⟨_, SubS.tup (j := 1) (by decide) (by decide) rfl rfl, LW.nil (⟨_, BuiS.lenT (by rw [Sts.ds_len]; have := g.1; (first | lia | omega)), LW.nil (⟨_, BuiS.strI (log_ok ?_), LW.nil (⟨_, .cons (.cons .nil), (show 2 ≤ sizeLine by decide), ⟨_, rfl, ?_⟩⟩)⟩)⟩)⟩)))))))))))))
    · rw [Sts.ds_len]
      have := g.1
      have e : (10 : Nat) ^ 60 = 1000000000000000000000000000000000000000000000000000000000000 := by decide
      (first | lia | omega)
    rw [Sts.ds_len]
    refine SWs.consK (SW.forK (EW.subK (EW.name 0 rfl rfl (EW.cint (⟨_, SubS.tup (j := 1) (by decide) (by decide) rfl rfl, ⟨_, IterS.tup,
      wordsI a l (n + (l.dp + 1) + 1) B, ?_, ?_, ?_⟩⟩)))))
    · refine ⟨l, [cw a, numS l.len], none, rfl, rfl, by show 2 + l.ws.length ≤ 12000; (first | lia | omega), (((ih.and (Sts.Gd.all g.2)).and (Sts.dp_all l (Nat.le_refl _))).and (ws_all (N := 12000) (by (first | lia | omega)))).imp fun t h => ?_, rfl⟩
      exact (h.1.1.1 h.1.1.2 h.2 n).mono (by have := h.1.2; (first | lia | omega)) (fun _ x => x) (fun _ x => x)
    · rintro d rest ρ' ⟨r, acc, x, e1, e2, e3, e4, rfl⟩
      cases r with
      | nil => cases e1
      | cons t r =>
        cases e1
        rw [Sts.ws, List.length_append] at e3
        refine AsW.name 3 rfl (by decide) (by decide) ?_
        refine SWs.consK (SW.assignK 2 rfl (by decide) (by decide) (EW.binK (EW.name 2 rfl rfl (EW.callK rfl (LW.consK (EW.name 3 rfl rfl (LW.nil ?_))) C.f_words.some))))
        refine Spec.eq e4.1 ?_ (Nat.le_refl _)
        refine ⟨_, BinS.addL (by simp only [List.length_map]; (first | lia | omega)), ⟨_, rfl, ?_⟩⟩
        refine SWs.nil ⟨r, acc ++ t.ws, some (.im t.d), rfl, ?_, by rw [List.length_append]; (first | lia | omega), e4.2, ?_⟩
        · rw [← e2, Sts.ws, List.append_assoc]
        · rw [List.map_append]; rfl
    · rintro ρ' ⟨r, acc, x, e1, e2, e3, e4, rfl⟩
      have : r = .nil := by cases r with | nil => rfl | cons p r => cases e1
      subst this
      refine SWs.nil ?_
      refine SWs.consK (SW.retK (EW.name 2 rfl rfl ?_))
      show _ = _
      rw [show acc = (St.conn a l).ws by rw [St.ws, ← e2, Sts.ws, List.append_nil]]
  · intro e nm s ih g hl n
    have hq := C.quiet
    refine Spec.of_body (F := F_words) C.f_words rfl (by decide) rfl ?_
    show SWs B F_words NoX _ (start F_words [.im (.tup [.str (bw e), .str nm, s.d])]) _ _
    refine SWs.consK (SW.assignK 1 rfl (by decide) (by decide) (EW.subK (EW.name 0 rfl rfl (EW.cint (⟨_, SubS.tup (j := 0) (by decide) (by decide) rfl rfl, ⟨_, rfl, ?_⟩⟩)))))
    show SWs B F_words NoX _ [some (.im (.tup [.str (bw e), .str nm, s.d])), some (.im (.str (bw e))), none, none] (wordsB.drop 1) _
    have T := knT_of (kn_bw e)
    refine words_sk1 T.no ?_
    refine SWs.consK (SW.ife (TW.mono (Q := fun b => b = true) (TW.bool (AW.orCons (TW.cmpK (EW.name 1 rfl rfl (EW.cstr (⟨_, CmpS.eqS _ _, ?_⟩)))))) ?_))
    · cases e with
      | true => exact ifTd T.some_ rfl
      | false => exact ifFd T.some_ (AW.orCons (TW.cmpK (EW.name 1 rfl rfl (EW.cstr (⟨_, CmpS.eqS _ _, ifTd T.all_ rfl⟩)))))
    rintro _ rfl
    refine ifT ?_
    refine SWs.consK (SW.retK (EW.binK (EW.listK (LW.consK (EW.name 1 rfl rfl (LW.consK (EW.subK (EW.name 0 rfl rfl (EW.cint (⟨_, SubS.tup (j := 1) (by decide) (by decide) rfl rfl, LW.nil (⟨_, .cons (.cons .nil), (show 2 ≤ sizeLine by decide), EW.callK rfl (LW.consK (EW.subK (EW.name 0 rfl rfl (EW.cint (⟨_, SubS.tup (j := 2) (by decide) (by decide) rfl rfl, LW.nil ?_⟩))))) C.f_words.some⟩)⟩))))))))))
    rw [St.ws, List.length_cons, List.length_cons] at hl
    refine (ih g.2 (by (first | lia | omega)) n).mono (by have : (St.bind e nm s).dp = s.dp + 1 := rfl; (first | lia | omega)) ?_ (fun _ x => x)
    rintro _ rfl
    refine ⟨_, BinS.addL (by simp only [List.length_map, List.length_cons, List.length_nil]; (first | lia | omega)), ?_⟩
    show _ = _
    rfl
theorem written_spec (C : Cx B) {ss : List Str} {M : Nat} (hn : ∀ x ∈ ss, nameW x = true) (hM : M < 10 ^ 60) {s : St} (g : s.Gd ss M) (hl : s.ws.length ≤ 12000) (n : Nat) :
    Spec B "written" NoX (n + s.dp + 3) [.im s.d] fun q => q = .im (.str (Txt.join " " s.ws)) := by
  refine Spec.of_body (F := F_written) C.f_written rfl (by decide) rfl ?_
  have hq := C.quiet
  have ok := St.ws_ok (St.Ok.of hn hM g)
  refine SWs.consK (SW.retK (EW.join (EW.cstr (⟨_, rfl, EW.callK rfl (LW.consK (EW.name 0 rfl rfl (LW.nil ?_))) C.f_words_of.some⟩))))
  refine Spec.eq (words_of_spec C hM s g hl n) ?_ (Nat.le_refl _)
  exact ⟨_, s.ws, rfl, join_fit hl (fun w hw => by have := (ok w hw).len; (first | lia | omega)), rfl⟩
theorem within_spec (C : Cx B) : ∀ s : St, ∀ n : Nat, s.Sm 12000 → Spec B "_law_within" NoX (n + s.dp + 1) [.im s.d] (WiIs s) := by
  have hsz : sizeLine = 16777216 := by decide
  refine St.ind ?_ ?_ ?_ ?_ ?_ ?_
  · intro k ps n hm
    have hq := C.quiet
    refine Spec.of_body (F := F_within) C.f_within rfl (by decide) rfl ?_
    show SWs B F_within NoX _ (start F_within [.im (.tup [.str "above", sumD k ps])]) _ _
    refine SWs.consK (SW.assignK 1 rfl (by decide) (by decide) (EW.subK (EW.name 0 rfl rfl (EW.cint (⟨_, SubS.tup (j := 0) (by decide) (by decide) rfl rfl, ⟨_, rfl, ?_⟩⟩)))))
    show SWs B F_within NoX _ [some (.im (.tup [.str "above", sumD k ps])), some (.im (.str "above"))] (withinB.drop 1) _
    have T := knT_of kn_above
    refine within_sk1 T.no (within_sk2 T.some_ T.all_ (within_sk3 T.and_ T.or_ ?_))
    exact SWs.consK (SW.retK (EW.cint rfl))
  · intro k ps n hm
    have hq := C.quiet
    refine Spec.of_body (F := F_within) C.f_within rfl (by decide) rfl ?_
    show SWs B F_within NoX _ (start F_within [.im (.tup [.str "nought", sumD k ps])]) _ _
    refine SWs.consK (SW.assignK 1 rfl (by decide) (by decide) (EW.subK (EW.name 0 rfl rfl (EW.cint (⟨_, SubS.tup (j := 0) (by decide) (by decide) rfl rfl, ⟨_, rfl, ?_⟩⟩)))))
    show SWs B F_within NoX _ [some (.im (.tup [.str "nought", sumD k ps])), some (.im (.str "nought"))] (withinB.drop 1) _
    have T := knT_of kn_nought
    refine within_sk1 T.no (within_sk2 T.some_ T.all_ (within_sk3 T.and_ T.or_ ?_))
    exact SWs.consK (SW.retK (EW.cint rfl))
  · intro m k ps n hm
    have hq := C.quiet
    refine Spec.of_body (F := F_within) C.f_within rfl (by decide) rfl ?_
    show SWs B F_within NoX _ (start F_within [.im (.tup [.str "goes", .int m, sumD k ps])]) _ _
    refine SWs.consK (SW.assignK 1 rfl (by decide) (by decide) (EW.subK (EW.name 0 rfl rfl (EW.cint (⟨_, SubS.tup (j := 0) (by decide) (by decide) rfl rfl, ⟨_, rfl, ?_⟩⟩)))))
    show SWs B F_within NoX _ [some (.im (.tup [.str "goes", .int m, sumD k ps])), some (.im (.str "goes"))] (withinB.drop 1) _
    have T := knT_of kn_goes
    refine within_sk1 T.no (within_sk2 T.some_ T.all_ (within_sk3 T.and_ T.or_ ?_))
    exact SWs.consK (SW.retK (EW.cint rfl))
  · intro s ih n hm
    have hq := C.quiet
    refine Spec.of_body (F := F_within) C.f_within rfl (by decide) rfl ?_
    show SWs B F_within NoX _ (start F_within [.im (.tup [.str "not", s.d])]) _ _
    refine SWs.consK (SW.assignK 1 rfl (by decide) (by decide) (EW.subK (EW.name 0 rfl rfl (EW.cint (⟨_, SubS.tup (j := 0) (by decide) (by decide) rfl rfl, ⟨_, rfl, ?_⟩⟩)))))
    show SWs B F_within NoX _ [some (.im (.tup [.str "not", s.d])), some (.im (.str "not"))] (withinB.drop 1) _
    have T := knT_of kn_not
    refine SWs.consK (SW.ife (TW.cmpK (EW.name 1 rfl rfl (EW.cstr (⟨_, CmpS.eqS _ _, ifTd T.no ?_⟩)))))
    refine SWs.consK (SW.retK (EW.binK (EW.cint (EW.callK rfl (LW.consK (EW.subK (EW.name 0 rfl rfl (EW.cint (⟨_, SubS.tup (j := 1) (by decide) (by decide) rfl rfl, LW.nil ?_⟩))))) C.f_within.some))))
    refine (ih n hm).mono (by have : (St.neg s).dp = s.dp + 1 := rfl; (first | lia | omega)) ?_ (fun _ x => x)
    rintro _ rfl
    refine ⟨_, BinS.add _ _, ?_⟩
    show Rs.im (.int _) = Rs.im (.int _)
    rw [show (1 : Int) + ((s.wi : Nat) : Int) = (((St.neg s).wi : Nat) : Int) by rw [St.wi]; (first | lia | omega)]
  · intro a l ih n hm
    have hq := C.quiet
    refine Spec.of_body (F := F_within) C.f_within rfl (by decide) rfl ?_
    show SWs B F_within NoX _ (start F_within [.im (.tup [.str (cw a), .tup l.ds])]) _ _
    refine SWs.consK (SW.assignK 1 rfl (by decide) (by decide) (EW.subK (EW.name 0 rfl rfl (EW.cint (⟨_, SubS.tup (j := 0) (by decide) (by decide) rfl rfl, ⟨_, rfl, ?_⟩⟩)))))
    show SWs B F_within NoX _ [some (.im (.tup [.str (cw a), .tup l.ds])), some (.im (.str (cw a)))] (withinB.drop 1) _
    have T := knT_of (kn_cw a)
    refine within_sk1 T.no (within_sk2 T.some_ T.all_ ?_)
    refine SWs.consK (SW.ife (TW.mono (Q := fun b => b = true) (TW.bool (AW.orCons (TW.cmpK (EW.name 1 rfl rfl (EW.cstr (⟨_, CmpS.eqS _ _, ?_⟩)))))) ?_))
    · cases a with
      | true => exact ifTd T.and_ rfl
      | false => exact ifFd T.and_ (AW.orCons (TW.cmpK (EW.name 1 rfl rfl (EW.cstr (⟨_, CmpS.eqS _ _, ifTd T.or_ rfl⟩)))))
    rintro _ rfl
    refine ifT ?_
    have hlen : (l.ds.filterMap wiF).length ≤ sizeLine := by rw [wiF_list, List.length_map, wis_len]; have := hm.1; (first | lia | omega)
    have ih2 : l.All fun t => Spec B "_law_within" NoX (n + (l.dp + 1)) [.im t.d] (WiIs t) :=
      ((ih.and (Sts.dp_all l (Nat.le_refl _))).and (Sts.Sm.all hm.2)).imp fun t h => (h.1.1 n h.2).mono (by have := h.1.2; (first | lia | omega)) (fun _ x => x) (fun _ x => x)
    refine SWs.consK (SW.retK (EW.binK (EW.cint (EW.maxD rfl C.b_max (LW.consK (EW.compV [("_law_part", .loc)] 1 [] (by decide +kernel) (by decide +kernel) (EW.subK (EW.name 0 rfl rfl (EW.cint (⟨_, SubS.tup (j := 1) (by decide) (by decide) rfl rfl, ⟨_, IterS.tup, wiF, ?_, hlen, LW.nil ?_⟩⟩))))))))))
    · intro d hd
      obtain ⟨t, rfl, ht⟩ := Sts.mem_ds ih2 hd
      refine AsW.name 0 rfl (by decide) (by decide) ⟨rfl, IfsW.nil (ifT (EW.callK rfl (LW.consK (EW.name 0 rfl rfl (LW.nil ?_))) C.f_within.some))⟩
      refine Spec.eq ht ?_ (Nat.le_refl _)
      exact ⟨_, wiF_d t, rfl⟩
    · refine ⟨_, l.wis, by rw [wiF_list], wis_nn l, ⟨_, BinS.add _ _, ?_⟩⟩
      show Rs.im (.int _) = Rs.im (.int _)
      have e := wis_max l 0
      rw [Nat.zero_max] at e
      have e2 : maxN l.wis = ((l.wi : Nat) : Int) := e
      rw [e2, show (1 : Int) + ((l.wi : Nat) : Int) = (((St.conn a l).wi : Nat) : Int) by rw [St.wi]; (first | lia | omega)]
  · intro e nm s ih n hm
    have hq := C.quiet
    refine Spec.of_body (F := F_within) C.f_within rfl (by decide) rfl ?_
    show SWs B F_within NoX _ (start F_within [.im (.tup [.str (bw e), .str nm, s.d])]) _ _
    refine SWs.consK (SW.assignK 1 rfl (by decide) (by decide) (EW.subK (EW.name 0 rfl rfl (EW.cint (⟨_, SubS.tup (j := 0) (by decide) (by decide) rfl rfl, ⟨_, rfl, ?_⟩⟩)))))
    show SWs B F_within NoX _ [some (.im (.tup [.str (bw e), .str nm, s.d])), some (.im (.str (bw e)))] (withinB.drop 1) _
    have T := knT_of (kn_bw e)
    refine within_sk1 T.no ?_
    refine SWs.consK (SW.ife (TW.mono (Q := fun b => b = true) (TW.bool (AW.orCons (TW.cmpK (EW.name 1 rfl rfl (EW.cstr (⟨_, CmpS.eqS _ _, ?_⟩)))))) ?_))
    · cases e with
      | true => exact ifTd T.some_ rfl
      | false => exact ifFd T.some_ (AW.orCons (TW.cmpK (EW.name 1 rfl rfl (EW.cstr (⟨_, CmpS.eqS _ _, ifTd T.all_ rfl⟩)))))
    rintro _ rfl
    refine ifT ?_
    refine SWs.consK (SW.retK (EW.binK (EW.cint (EW.callK rfl (LW.consK (EW.subK (EW.name 0 rfl rfl (EW.cint (⟨_, SubS.tup (j := 2) (by decide) (by decide) rfl rfl, LW.nil ?_⟩))))) C.f_within.some))))
    refine (ih n hm).mono (by have : (St.bind e nm s).dp = s.dp + 1 := rfl; (first | lia | omega)) ?_ (fun _ x => x)
    rintro _ rfl
    refine ⟨_, BinS.add _ _, ?_⟩
    show Rs.im (.int _) = Rs.im (.int _)
    rw [show (1 : Int) + ((s.wi : Nat) : Int) = (((St.bind e nm s).wi : Nat) : Int) by rw [St.wi]; (first | lia | omega)]
end Mine
end

section
open PySem PySem.W PyProof.Rows PySem.Calls PyProof
set_option Elab.async false
set_option maxHeartbeats 1600000
set_option maxRecDepth 100000
set_option linter.unusedVariables false
namespace Mine
variable {B : Bs}
noncomputable def othersL : List Str := ["not", "and", "some", "x", "0", "1", "-1", "-0", "07", "+1", ";", "", "X", "abcdefghi", "2x", Txt.mul "1" 61, "-2", "-", "--1", "abcdefgh", "1-", "al", "so", "n", "gone"]
theorem others_len : ∀ w ∈ othersL, w.length ≤ 61 := by decide +kernel
theorem other_at (j : Int) (h0 : 0 ≤ j) (h : j < 25) : ∃ w : Str, w.length ≤ 61 ∧ (othersL.map D.str)[j.toNat]? = some (.str w) := by
  have hj : j.toNat < othersL.length := by rw [show othersL.length = 25 from rfl]; (first | lia | omega)
  exact ⟨othersL[j.toNat], others_len _ (List.getElem_mem hj), by rw [List.getElem?_map, List.getElem?_eq_getElem hj]; rfl⟩
noncomputable def ChIs (q : Rs) : Prop := ∃ ws' : List Str, ws'.length ≤ 12000 ∧ (∀ w ∈ ws', w.length ≤ 70) ∧ q = .fr (.lst (ws'.map .str))
theorem cut_ok {ws : List Str} (hl : ws.length ≤ 11000) (hw : ∀ w ∈ ws, w.length ≤ 61) {p : Nat} (m : List Str) (k : Nat) (hk : p ≤ k) (hm : m.length ≤ 1) (hs : ∀ w ∈ m, w.length ≤ 70) : ChIs (.fr (.lst ((ws.take p).map D.str ++ m.map D.str ++ (ws.drop k).map D.str))) := by
  refine ⟨ws.take p ++ m ++ ws.drop k, ?_, fun w h => ?_, by rw [List.map_append, List.map_append]⟩
  · simp only [List.length_append, List.length_take, List.length_drop]; (first | lia | omega)
  · rcases List.mem_append.mp h with h | h
    · rcases List.mem_append.mp h with h | h
      · exact Nat.le_trans (hw w (List.mem_of_mem_take h)) (by decide)
      · exact hs w h
    · exact Nat.le_trans (hw w (List.mem_of_mem_drop h)) (by decide)
theorem cut_word {w am : Str} {ct : Int} (hwl : w.length ≤ 61) (ham : am.length ≤ 1) (h0 : 0 ≤ ct) (h1 : ct < (if (w.length : Int) > 1 then (w.length : Int) else 1)) : (Txt.slice w none (some ct) ++ am ++ Txt.slice w (some (ct + 1)) none).length ≤ 70 := by
  have sa := Txt.slice_le w none (some ct)
  have sb := Txt.slice_le w (some (ct + 1)) none
  have la : (Txt.slice w none (some ct) ++ am).length = (Txt.slice w none (some ct)).length + am.length := Array.size_append
  have lb : (Txt.slice w none (some ct) ++ am ++ Txt.slice w (some (ct + 1)) none).length = (Txt.slice w none (some ct) ++ am).length + (Txt.slice w (some (ct + 1)) none).length := Array.size_append
  rw [lb, la]
  by_cases hz : w.length = 0
  · (first | lia | omega)
  · have hlt : ct < w.length := by split at h1 <;> (first | lia | omega)
    obtain ⟨j, rfl⟩ : ∃ j : Nat, ct = j := ⟨ct.toNat, by (first | lia | omega)⟩
    have ea := sl_to_len (w := w) (j := j) (by (first | lia | omega))
    have eb : (Txt.slice w (some ((j : Int) + 1)) none).length = w.length - (j + 1) := sl_from_len (j := j + 1) (by (first | lia | omega))
    rw [ea, eb]; (first | lia | omega)
theorem spot_ok {c : Int} {l : Nat} (h0 : 1 ≤ l) (bb : Bool) : ∃ p : Nat, c / 5 % ((l : Int) + (if bb then 1 else 0)) = p ∧ p ≤ l ∧ (bb = false → p < l) := by
  have hden : 0 < ((l : Int) + (if bb then 1 else 0)) := by cases bb <;> simp <;> (first | lia | omega)
  have hs0 := em0 (c / 5) hden
  have hs1 := em1 (c / 5) hden
  refine ⟨(c / 5 % ((l : Int) + (if bb then 1 else 0))).toNat, (Int.toNat_of_nonneg hs0).symm, ?_, fun e => ?_⟩
  · cases bb <;> simp at hs1 ⊢ <;> (first | lia | omega)
  · subst e; simp at hs1 ⊢; (first | lia | omega)
theorem amp (c : Int) : ∃ a : Str, a.length ≤ 1 ∧ ([D.str "", D.str "&"] : List D)[(c / 7 % 2).toNat]? = some (.str a) := by
  have : c / 7 % 2 = 0 ∨ c / 7 % 2 = 1 := by (first | lia | omega)
  rcases this with e | e <;> rw [e]
  · exact ⟨"", by decide, rfl⟩
  · exact ⟨"&", by decide +kernel, rfl⟩
theorem law_changed_spec (C : Cx B) (n : Nat) {ws : List Str} {c : Int} (h0 : 1 ≤ ws.length) (hl : ws.length ≤ 11000) (hw : ∀ w ∈ ws, w.length ≤ 61) :
    Spec B "_law_changed" NoX (n + 1) [.ct (.lst (ws.map .str)), .im (.int c)] ChIs := by
  refine Spec.of_body (F := F_changed) C.f_changed rfl (by decide) rfl ?_
  have hq := C.quiet
  -- _law_others = ['not', ..]
  refine SWs.consK ?_
  refine @SW.assign _ _ _ _ _ _ _ _ _ _ 2 _ rfl (by decide) (by decide) ?_ ?_
  rotate_left
  · intro _; rfl
  refine @EW.strs _ _ _ _ _ _ _ _ (othersL.take 13) (by decide +kernel) (show 13 ≤ sizeLine by decide) ?_
  refine ⟨_, rfl, ?_⟩
  -- _law_others = _law_others + ['abcdefghi', ..]
  refine SWs.consK (SW.assignK 2 rfl (by decide) (by decide) (EW.binK (EW.name 2 rfl rfl (EW.listK (LW.consK (EW.cstr (LW.consK (EW.cstr (LW.consK (EW.binK (EW.cstr (EW.cint (⟨_, BinS.mulS (mulOk100 (by decide +kernel) (by decide) (by decide)), LW.consK (EW.cstr (LW.consK (EW.cstr (LW.consK (EW.cstr (LW.consK (EW.cstr (LW.consK (EW.cstr (LW.consK (EW.cstr (LW.consK (EW.cstr (LW.consK (EW.cstr (LW.consK (EW.cstr (LW.nil (⟨_, .cons (.cons (.cons (.cons (.cons (.cons (.cons (.cons (.cons (.cons (.cons (.cons .nil))))))))))), (show 12 ≤ sizeLine by decide), ⟨_, BinS.addL (show 25 ≤ sizeLine by decide), ⟨_, rfl, ?_⟩⟩⟩)))))))))))))))))))⟩)))))))))))))
  show SWs B F_changed NoX _ [some (.fz (.lst (ws.map .str))), some (.im (.int c)), some (.own (.lst (othersL.map .str))), none, none, none, none] _ _
  -- _law_spot = _law_cell // 5 % (len(_law_words_here) + int(_law_cell % 5 > 1 and _law_cell % 5 < 4))
  refine SWs.consK (SW.assignK 3 rfl (by decide) (by decide) (EW.binK (EW.binK (EW.name 1 rfl rfl (EW.cint (⟨_, BinS.fdivP (by decide) (by decide), EW.binK (EW.bcallK rfl C.b_len bb_len trivial (LW.consK (EW.name 0 rfl rfl (LW.nil (⟨_, BuiS.lenL (by rw [List.length_map]; exact Nat.lt_of_le_of_lt hl (by decide)), EW.bcallK rfl C.b_int bb_int trivial (LW.consK (EW.mono (Q := fun r => r = .im (.bool (decide (1 < c % 5) && decide (c % 5 < 4)))) (EW.and2 (EW.cmpK (EW.binK (EW.name 1 rfl rfl (EW.cint (⟨_, BinS.modP (by decide), EW.cint (⟨_, CmpS.gtI _ _, ⟨_, TruS.bool _, ?_⟩⟩)⟩)))))) ?_))⟩)))))⟩))))))
  · cases hb : decide (1 < c % 5) with
    | false => exact ifF rfl
    | true => exact ifT (EW.cmpK (EW.binK (EW.name 1 rfl rfl (EW.cint (⟨_, BinS.modP (by decide), EW.cint (⟨_, CmpS.ltI _ _, rfl⟩)⟩)))))
  rintro _ rfl
  generalize hbb : (decide (1 < c % 5) && decide (c % 5 < 4)) = bb
  rw [List.length_map]
  have hden : 0 < ((ws.length : Int) + (if bb then 1 else 0)) := by cases bb <;> simp <;> (first | lia | omega)
  refine LW.nil (⟨_, BuiS.intB bb, ⟨_, BinS.add _ _, ⟨_, BinS.modP hden, ⟨_, rfl, ?_⟩⟩⟩⟩)
  obtain ⟨p, hsp, hple, hplt⟩ := spot_ok (c := c) h0 bb
  rw [hsp]
  -- _law_other = _law_others[_law_cell // 512 % 25]
  obtain ⟨ot, hot, hoa⟩ := other_at (c / 512 % 25) (em0 _) (em1 _)
  refine SWs.consK (SW.assignK 4 rfl (by decide) (by decide) (EW.subK (EW.name 2 rfl rfl (EW.binK (EW.binK (EW.name 1 rfl rfl (EW.cint (⟨_, BinS.fdivP (by decide) (by decide), EW.cint (⟨_, BinS.modP (by decide), ⟨_, SubS.list (em0 _) (em63 _) hoa, ⟨_, rfl, ?_⟩⟩⟩)⟩))))))))
  have hll : (ws.map D.str).length ≤ sizeLine := by rw [List.length_map]; exact le_sz hl
  have eto : pick (ws.map D.str) none (some (p : Int)) = (ws.take p).map .str := pick_to
  have efr : pick (ws.map D.str) (some (p : Int)) none = (ws.drop p).map .str := pick_from
  have efr1 : pick (ws.map D.str) (some ((p : Int) + 1)) none = (ws.drop (p + 1)).map .str := pick_from (k := p + 1)
  have tl : (pick (ws.map D.str) none (some (p : Int))).length ≤ 11000 := by rw [eto, List.length_map]; exact Nat.le_trans (List.length_take_le' ..) hl
  have dl : (pick (ws.map D.str) (some (p : Int)) none).length ≤ 11000 := by rw [efr, List.length_map, List.length_drop]; exact Nat.le_trans (Nat.sub_le ..) hl
  have dl1 : (pick (ws.map D.str) (some ((p : Int) + 1)) none).length ≤ 11000 := by rw [efr1, List.length_map, List.length_drop]; exact Nat.le_trans (Nat.sub_le ..) hl
  -- if _law_cell % 5 == 0:
  refine SWs.consK (SW.ife (TW.cmpK (EW.binK (EW.name 1 rfl rfl (EW.cint (⟨_, BinS.modP (by decide), EW.cint (⟨_, CmpS.eqI _ _, ?_⟩)⟩))))))
  try dsimp only
  split
  · refine SWs.consK (SW.retK (EW.binK (EW.sliceK (EW.name 0 rfl rfl (PW.none (PW.someK (EW.name 3 rfl rfl (⟨_, rfl, ⟨_, SlcS.list hll, EW.sliceK (EW.name 0 rfl rfl (PW.someK (EW.binK (EW.name 3 rfl rfl (EW.cint (⟨_, BinS.add _ _, ⟨_, rfl, PW.none (⟨_, SlcS.list hll, ⟨_, BinS.addL ?_, ?_⟩⟩)⟩⟩))))))⟩⟩))))))))
    · exact le_sz (Nat.add_le_add tl dl1)
    · rw [eto, efr1]
      have := cut_ok hl hw (p := p) [] (p + 1) (Nat.le_succ _) (by simp) (fun w h => by cases h)
      rwa [List.map_nil, List.append_nil] at this
  refine SWs.nil ?_
  -- if _law_cell % 5 == 1:
  refine SWs.consK (SW.ife (TW.cmpK (EW.binK (EW.name 1 rfl rfl (EW.cint (⟨_, BinS.modP (by decide), EW.cint (⟨_, CmpS.eqI _ _, ?_⟩)⟩))))))
  try dsimp only
  split
  · refine SWs.consK (SW.retK (EW.binK (EW.binK (EW.sliceK (EW.name 0 rfl rfl (PW.none (PW.someK (EW.name 3 rfl rfl (⟨_, rfl, ⟨_, SlcS.list hll, EW.listK (LW.consK (EW.name 4 rfl rfl (LW.nil (⟨_, .cons .nil, (show 1 ≤ sizeLine by decide), ⟨_, BinS.addL ?_, EW.sliceK (EW.name 0 rfl rfl (PW.someK (EW.binK (EW.name 3 rfl rfl (EW.cint (⟨_, BinS.add _ _, ⟨_, rfl, PW.none (⟨_, SlcS.list hll, ⟨_, BinS.addL ?_, ?_⟩⟩)⟩⟩))))))⟩⟩))))⟩⟩)))))))))
    · exact le_sz (Nat.add_le_add tl (Nat.le_refl 1))
    · rw [List.length_append]; exact le_sz (Nat.add_le_add (Nat.add_le_add tl (Nat.le_refl 1)) dl1)
    · rw [eto, efr1]
      exact cut_ok hl hw [ot] (p + 1) (Nat.le_succ _) (Nat.le_refl 1) (fun w h => by rw [List.mem_singleton.mp h]; exact Nat.le_trans hot (by decide))
  refine SWs.nil ?_
  -- if _law_cell % 5 == 2:
  refine SWs.consK (SW.ife (TW.cmpK (EW.binK (EW.name 1 rfl rfl (EW.cint (⟨_, BinS.modP (by decide), EW.cint (⟨_, CmpS.eqI _ _, ?_⟩)⟩))))))
  try dsimp only
  split
  · refine SWs.consK (SW.retK (EW.binK (EW.binK (EW.sliceK (EW.name 0 rfl rfl (PW.none (PW.someK (EW.name 3 rfl rfl (⟨_, rfl, ⟨_, SlcS.list hll, EW.listK (LW.consK (EW.name 4 rfl rfl (LW.nil (⟨_, .cons .nil, (show 1 ≤ sizeLine by decide), ⟨_, BinS.addL ?_, EW.sliceK (EW.name 0 rfl rfl (PW.someK (EW.name 3 rfl rfl (⟨_, rfl, PW.none (⟨_, SlcS.list hll, ⟨_, BinS.addL ?_, ?_⟩⟩)⟩))))⟩⟩))))⟩⟩)))))))))
    · exact le_sz (Nat.add_le_add tl (Nat.le_refl 1))
    · rw [List.length_append]; exact le_sz (Nat.add_le_add (Nat.add_le_add tl (Nat.le_refl 1)) dl)
    · rw [eto, efr]
      exact cut_ok hl hw [ot] p (Nat.le_refl _) (Nat.le_refl 1) (fun w h => by rw [List.mem_singleton.mp h]; exact Nat.le_trans hot (by decide))
  refine SWs.nil ?_
  -- if _law_cell % 5 == 4:
  refine SWs.consK (SW.ife (TW.cmpK (EW.binK (EW.name 1 rfl rfl (EW.cint (⟨_, BinS.modP (by decide), EW.cint (⟨_, CmpS.eqI _ _, ?_⟩)⟩))))))
  try dsimp only
  split
  · rename_i h4
    have h4 : c % 5 = 4 := by simpa using h4
    have hbf : bb = false := by rw [← hbb, h4]; rfl
    have hplt := hplt hbf
    obtain ⟨w, hwe⟩ : ∃ w, ws[p]? = some w := ⟨ws[p], List.getElem?_eq_getElem hplt⟩
    have hwl := hw w (List.mem_of_getElem? hwe)
    have hgd : (ws.map D.str)[(p : Int).toNat]? = some (.str w) := by rw [Int.toNat_natCast, List.getElem?_map, hwe]; rfl
    -- _law_word = _law_words_here[_law_spot]
    refine SWs.consK (SW.assignK 5 rfl (by decide) (by decide) (EW.subK (EW.name 0 rfl rfl (EW.name 3 rfl rfl (⟨_, SubS.list (nn p) (lt63 (Nat.lt_of_le_of_lt hple (Nat.lt_of_le_of_lt hl (by decide)))) hgd, ⟨_, rfl, ?_⟩⟩)))))
    -- _law_cut = _law_cell // 512 % max(1, len(_law_word))
    have hmx : 0 < (if (w.length : Int) > 1 then (w.length : Int) else 1) := by split <;> (first | lia | omega)
    refine SWs.consK (SW.assignK 6 rfl (by decide) (by decide) (EW.binK (EW.binK (EW.name 1 rfl rfl (EW.cint (⟨_, BinS.fdivP (by decide) (by decide), EW.bcallK rfl C.b_max bb_max trivial (LW.consK (EW.cint (LW.consK (EW.bcallK rfl C.b_len bb_len trivial (LW.consK (EW.name 5 rfl rfl (LW.nil (⟨_, BuiS.lenS (Nat.lt_of_le_of_lt hwl (by decide)), LW.nil (⟨_, BuiS.max2 _ _, ⟨_, BinS.modP hmx, ⟨_, rfl, ?_⟩⟩⟩)⟩))))))))⟩))))))
    have hct0 := em0 (c / 512) hmx
    have hct1 := em1 (c / 512) hmx
    generalize c / 512 % (if (w.length : Int) > 1 then (w.length : Int) else 1) = ct at *
    obtain ⟨am, ham, hag⟩ := amp c
    have hws : w.length ≤ sizeLine := le_sz hwl
    have sa : (Txt.slice w none (some ct)).length + am.length ≤ 62 := Nat.add_le_add (Nat.le_trans (Txt.slice_le w _ _) hwl) ham
    have sb : (Txt.slice w (some (ct + 1)) none).length ≤ 61 := Nat.le_trans (Txt.slice_le w _ _) hwl
    have la : (Txt.slice w none (some ct) ++ am).length = (Txt.slice w none (some ct)).length + am.length := Array.size_append
    refine SWs.consK (SW.retK (EW.binK (EW.binK (EW.sliceK (EW.name 0 rfl rfl (PW.none (PW.someK (EW.name 3 rfl rfl (⟨_, rfl, ⟨_, SlcS.list hll, EW.listK (LW.consK (EW.binK (EW.binK (EW.sliceK (EW.name 5 rfl rfl (PW.none (PW.someK (EW.name 6 rfl rfl (⟨_, rfl, ⟨_, SlcS.str hws, EW.subK (EW.listK (LW.consK (EW.cstr (LW.consK (EW.cstr (LW.nil (⟨_, .cons (.cons .nil), (show 2 ≤ sizeLine by decide), EW.binK (EW.binK (EW.name 1 rfl rfl (EW.cint (⟨_, BinS.fdivP (by decide) (by decide), EW.cint (⟨_, BinS.modP (by decide), ⟨_, SubS.list (em0 _) (em63 _) hag, ⟨_, BinS.addS (le_sz sa), EW.sliceK (EW.name 5 rfl rfl (PW.someK (EW.binK (EW.name 6 rfl rfl (EW.cint (⟨_, BinS.add _ _, ⟨_, rfl, PW.none (⟨_, SlcS.str hws, ⟨_, BinS.addS (by rw [la]; exact le_sz (Nat.add_le_add sa sb)), LW.nil (⟨_, .cons .nil, (show 1 ≤ sizeLine by decide), ⟨_, BinS.addL ?_, EW.sliceK (EW.name 0 rfl rfl (PW.someK (EW.binK (EW.name 3 rfl rfl (EW.cint (⟨_, BinS.add _ _, ⟨_, rfl, PW.none (⟨_, SlcS.list hll, ⟨_, BinS.addL ?_, ?_⟩⟩)⟩⟩))))))⟩⟩)⟩⟩)⟩⟩))))))⟩⟩⟩)⟩))))⟩)))))))⟩⟩)))))))))⟩⟩)))))))))
    · exact le_sz (Nat.add_le_add tl (Nat.le_refl 1))
    · rw [List.length_append]; exact le_sz (Nat.add_le_add (Nat.add_le_add tl (Nat.le_refl 1)) dl1)
    · rw [eto, efr1]
      exact cut_ok hl hw [Txt.slice w none (some ct) ++ am ++ Txt.slice w (some (ct + 1)) none] (p + 1) (Nat.le_succ _) (Nat.le_refl 1) (fun w' h => by rw [List.mem_singleton.mp h]; exact cut_word hwl ham hct0 hct1)
  refine SWs.nil ?_
  -- return _law_words_here[:_law_spot] + [''] + _law_words_here[_law_spot:]
  refine SWs.consK (SW.retK (EW.binK (EW.binK (EW.sliceK (EW.name 0 rfl rfl (PW.none (PW.someK (EW.name 3 rfl rfl (⟨_, rfl, ⟨_, SlcS.list hll, EW.listK (LW.consK (EW.cstr (LW.nil (⟨_, .cons .nil, (show 1 ≤ sizeLine by decide), ⟨_, BinS.addL ?_, EW.sliceK (EW.name 0 rfl rfl (PW.someK (EW.name 3 rfl rfl (⟨_, rfl, PW.none (⟨_, SlcS.list hll, ⟨_, BinS.addL ?_, ?_⟩⟩)⟩))))⟩⟩))))⟩⟩)))))))))
  · exact le_sz (Nat.add_le_add tl (Nat.le_refl 1))
  · rw [List.length_append]; exact le_sz (Nat.add_le_add (Nat.add_le_add tl (Nat.le_refl 1)) dl)
  · rw [eto, efr]
    exact cut_ok hl hw [""] p (Nat.le_refl _) (Nat.le_refl 1) (fun w h => by rw [List.mem_singleton.mp h]; decide)
end Mine
end

section
open PySem PySem.W PyProof.Rows PySem.Calls PyProof
set_option Elab.async false
set_option maxHeartbeats 1600000
set_option maxRecDepth 100000
set_option linter.unusedVariables false
namespace Mine
variable {B : Bs}
theorem mgC (C : Cx B) : B.mg "SomeError" = some (.ref 24) ∧ B.mg "NoValue" = some (.ref 37) ∧ B.mg "NotPlain" = some (.ref 49) ∧ B.mg "NoNote" = some (.ref 61) :=
  ⟨mgOf C.kin B.g (ns24 _).1, mgOf C.kin B.g (ns24 _).2.1, mgOf C.kin B.g (ns24 _).2.2.1, mgOf C.kin B.g (ns24 _).2.2.2⟩
theorem word_ofN (C : Cx B) (n : Nat) : Spec B.loud "_law_word_of" NoX (n + 1) [.ct (.exc "NoNote")] fun q => q = .im (.str "no note") := by
  refine Spec.of_body (F := F_word_of) C.f_word_of.loud rfl (by decide) rfl ?_
  have m := mgC C
  have X0 : (kf B.w.params).In B.loud.hB := C.kin
  refine SWs.consK (SW.assignK 1 rfl (by decide) (by decide) (EW.listK (LW.nil (⟨_, .nil, (show 0 ≤ sizeLine by decide), ⟨_, rfl, ?_⟩⟩))))
  refine SWs.consK (SW.ife (TW.valK (EW.isiC rfl C.b_isinstance rfl (C := 37) m.2.1 (EW.name 0 rfl rfl (⟨_, IsiC.not X0 m.2.2.2 (xc _).2.2.2 (xn61 _).1, ⟨_, TruS.bool _, ifF (SWs.nil ?_)⟩⟩)))))
  refine SWs.consK (SW.ife (TW.valK (EW.isiC rfl C.b_isinstance rfl (C := 49) m.2.2.1 (EW.name 0 rfl rfl (⟨_, IsiC.not X0 m.2.2.2 (xc _).2.2.2 (xn61 _).2.1, ⟨_, TruS.bool _, ifF (SWs.nil ?_)⟩⟩)))))
  refine SWs.consK (SW.ife (TW.valK (EW.isiC rfl C.b_isinstance rfl (C := 61) m.2.2.2 (EW.name 0 rfl rfl (⟨_, IsiC.self X0 m.2.2.2, ⟨_, TruS.bool _, ifT ?_⟩⟩)))))
  refine SWs.consK (SW.appendK 1 rfl rfl (EW.cstr (⟨_, rfl, (show 0 ≤ sizeLine by decide), SWs.nil ?_⟩)))
  refine SWs.consK (SW.ife (TW.not (TW.valK (EW.isiK rfl C.b_isinstance rfl C.b_ValueError bb_ValueError (EW.name 0 rfl rfl (⟨_, IsiS.excV X0 m.2.2.2 (xc _).2.2.2, ⟨_, TruS.bool _, ifF (SWs.nil ?_)⟩⟩))))))
  exact SWs.consK (SW.retK (EW.join (EW.cstr ⟨_, rfl, EW.name 1 rfl rfl ⟨_, ["no note"], rfl, by decide +kernel, rfl⟩⟩)))
noncomputable def noNoteD : D := .tup [.str "no note", .bool true]
theorem law_read_spec (C : Cx B) (n : Nat) {x : Str} (hx : x.length < 1000000) :
    Spec B "_law_read" NoX (n + 86) [.im (.str x)] fun q => (∃ s, parse rd 40 (Txt.split x " ") = some (s, []) ∧ q = .im (.tup [.str "statement", s.d])) ∨ ((¬ ∃ s, parse rd 40 (Txt.split x " ") = some (s, [])) ∧ q = .im noNoteD) := by
  refine Spec.of_body (F := F_lread) C.f_lread rfl (by decide) rfl ?_
  have hq := C.quiet
  have m := mgC C
  refine SWs.consK (SW.tryRetE (X1 := NN (¬ ∃ s, parse rd 40 (Txt.split x " ") = some (s, []))) (K := kf B.w.params) 1 rfl (by decide) (show 1 < 2 by decide) rfl C.kin (S := 24) m.1 (xc _).1 ?_ (fun _ => noNoteD) ?_ ?_ ?_)
  · rintro c' ⟨rfl, _⟩
    exact ⟨61, m.2.2.2, (xn61 _).2.2⟩
  · rintro c' ⟨rfl, _⟩
    refine EW.tupleK (LW.consK (EW.callK rfl (LW.consK (EW.name 1 rfl rfl (LW.nil ?_))) C.f_word_of.loud.some))
    refine Spec.eq (word_ofN C (n + 84)) ?_ (Nat.le_refl _)
    exact LW.consK (EW.cbool (LW.nil (⟨_, .cons (.cons .nil), (show 2 ≤ sizeLine by decide), rfl⟩)))
  · rintro c' ⟨rfl, h⟩
    exact .inr ⟨h, rfl⟩
  · refine EW.tupleK (LW.consK (EW.cstr (LW.consK (EW.callK rfl (LW.consK (EW.name 0 rfl rfl (LW.nil ?_))) C.f_read.some))))
    refine (read_spec C n hx).mono (Nat.le_refl _) ?_ (fun _ x => x)
    rintro _ ⟨s, hs, rfl⟩
    exact LW.nil (⟨_, .cons (.cons .nil), (show 2 ≤ sizeLine by decide), .inl ⟨s, hs, rfl⟩⟩)
theorem Dg.mono {m m' : Nat} {d : D} (h : Dg m d) (hm : m ≤ m') : Dg m' d := by
  induction h generalizing m' with
  | tru => exact .tru
  | int => exact .int
  | str => exact .str
  | @tup m l hl _ ih =>
    obtain ⟨k, rfl⟩ : ∃ k, m' = k + 1 := ⟨m' - 1, by (first | lia | omega)⟩
    exact .tup hl fun d hd => ih d hd (by (first | lia | omega))
theorem sum_dg {k : Int} {ps : List (Str × Int)} (h : ps.length < 2 ^ 60) : Dg 3 (sumD k ps) := by
  refine .tup (show 2 < 2 ^ 60 by decide) fun d hd => ?_
  rcases List.mem_cons.mp hd with rfl | hd
  · exact .int
  · rw [List.mem_singleton.mp hd]
    refine .tup (by rw [List.length_map]; exact h) fun d hd => ?_
    obtain ⟨p, _, rfl⟩ := List.mem_map.mp hd
    refine .tup (show 2 < 2 ^ 60 by decide) fun d hd => ?_
    rcases List.mem_cons.mp hd with rfl | hd
    · exact .str
    · rw [List.mem_singleton.mp hd]; exact .int
theorem two_dg {m : Nat} {x : Str} {d : D} (h : Dg m d) : Dg (m + 1) (.tup [.str x, d]) := by
  refine .tup (show 2 < 2 ^ 60 by decide) fun d' hd => ?_
  rcases List.mem_cons.mp hd with rfl | hd
  · exact .str
  · rw [List.mem_singleton.mp hd]; exact h
theorem three_dg {m : Nat} {x : Str} {e d : D} (he : Dg m e) (h : Dg m d) : Dg (m + 1) (.tup [.str x, e, d]) := by
  refine .tup (show 3 < 2 ^ 60 by decide) fun d' hd => ?_
  rcases List.mem_cons.mp hd with rfl | hd
  · exact .str
  · rcases List.mem_cons.mp hd with rfl | hd
    · exact he
    · rw [List.mem_singleton.mp hd]; exact h
mutual
theorem St.dg {N : Nat} (hN : N < 2 ^ 60) : ∀ s : St, s.Sm N → Dg (2 * s.wi + 2) s.d
  | .above k ps, h => two_dg (sum_dg (Nat.lt_of_le_of_lt h hN))
  | .nought k ps, h => two_dg (sum_dg (Nat.lt_of_le_of_lt h hN))
  | .goes m k ps, h => three_dg .int (sum_dg (Nat.lt_of_le_of_lt h hN))
  | .neg s, h => (two_dg (s.dg hN h)).mono (by show 2 * s.wi + 2 + 1 ≤ 2 * (s.wi + 1) + 2; (first | lia | omega))
  | .conn a l, h => (two_dg (Dg.tup (m := 2 * l.wi + 2) (by rw [Sts.ds_len]; exact Nat.lt_of_le_of_lt h.1 hN) (l.dg hN h.2 (2 * l.wi + 2) (Nat.le_refl _)))).mono (by show 2 * l.wi + 2 + 1 + 1 ≤ 2 * (l.wi + 1) + 2; (first | lia | omega))
  | .bind e nm s, h => (three_dg .str (s.dg hN h)).mono (by show 2 * s.wi + 2 + 1 ≤ 2 * (s.wi + 1) + 2; (first | lia | omega))
theorem Sts.dg {N : Nat} (hN : N < 2 ^ 60) : ∀ l : Sts, l.Sm N → ∀ m, 2 * l.wi + 2 ≤ m → ∀ d ∈ l.ds, Dg m d
  | .nil, _, m, _, d, hd => by cases hd
  | .cons s l, h, m, hm, d, hd => by
    have hw : max s.wi l.wi = (Sts.cons s l).wi := rfl
    rcases List.mem_cons.mp hd with rfl | hd
    · exact (s.dg hN h.1).mono (by (first | lia | omega))
    · exact l.dg hN h.2 m (by (first | lia | omega)) d hd
end
theorem law_is_due_spec (C : Cx B) (n : Nat) {x : Str} (hx : x.length < 1000000) : Spec B "_law_is_due" NoX (n + 90) [.im (.str x)] (Is (.im (.bool true))) := by
  refine Spec.of_body (F := F_is_due) C.f_is_due rfl (by decide) rfl ?_
  have hq := C.quiet
  have hsz : sizeLine = 16777216 := by decide
  obtain ⟨hl, hw⟩ := split_fit hx
  -- _law_got = _law_along(_law_text.split(' '), 0)
  refine SWs.consK (SW.assignK 1 rfl (by decide) (by decide) (EW.callK rfl (LW.consK (EW.split (EW.name 0 rfl rfl (⟨_, rfl, (by (first | lia | omega)), EW.cstr (⟨_, rfl, (by decide +kernel), parts_fit (Nat.lt_trans hx (by decide)), LW.consK (EW.cint (LW.nil ?_))⟩)⟩)))) C.f_along.some))
  refine Spec.eq (law_along_spec C 40 n 0 rfl (Txt.split x " ") hl hw) ?_ (by (first | lia | omega))
  have hno : Dg 1 noNoteD := .tup (show 2 < 2 ^ 60 by decide) fun d hd => by
    rcases List.mem_cons.mp hd with rfl | hd
    · exact .str
    · rw [List.mem_singleton.mp hd]; exact .tru
  cases hp : parse rd 40 (Txt.split x " ") with
  | none =>
    refine ⟨.im .none, rfl, ?_⟩
    refine SWs.consK (SW.ife (TW.bool (AW.orCons (TW.cmpK (EW.name 1 rfl rfl (EW.cnone (⟨_, CmpS.isNone _, ifTd rfl (ifT ?_)⟩)))))))
    refine SWs.consK (SW.retK (EW.callK rfl (LW.consK (EW.callK rfl (LW.consK (EW.name 0 rfl rfl (LW.nil ?_))) C.f_lread.some)) C.f_alike.some))
    refine (law_read_spec C (n + 3) hx).mono (Nat.le_refl _) ?_ (fun _ x => x)
    rintro _ (⟨s, hs, _⟩ | ⟨_, rfl⟩)
    · rw [hp] at hs; cases hs
    refine LW.consK (EW.tupleK (LW.consK (EW.cstr (LW.consK (EW.cbool (LW.nil (⟨_, .cons (.cons .nil), (show 2 ≤ sizeLine by decide), LW.nil ?_⟩)))))))
    refine Spec.eq (alike_spec C hno (n + 80)) ?_ (by (first | lia | omega))
    rfl
  | some q =>
    obtain ⟨s, r⟩ := q
    refine ⟨.own (.pair s.d (r.map .str)), rfl, ?_⟩
    cases r with
    | cons w r =>
      refine SWs.consK (SW.ife (TW.bool (AW.orCons (TW.cmpK (EW.name 1 rfl rfl (EW.cnone (⟨_, CmpS.isNoneC _ _, ifF (AW.orCons (TW.cmpK (EW.subK (EW.name 1 rfl rfl (EW.cint (⟨_, SubS.pair1, EW.listK (LW.nil (⟨_, .nil, (show 0 ≤ sizeLine by decide), ⟨_, CmpS.neNil, ifT (ifT ?_)⟩⟩))⟩))))))⟩)))))))
      refine SWs.consK (SW.retK (EW.callK rfl (LW.consK (EW.callK rfl (LW.consK (EW.name 0 rfl rfl (LW.nil ?_))) C.f_lread.some)) C.f_alike.some))
      refine (law_read_spec C (n + 3) hx).mono (Nat.le_refl _) ?_ (fun _ x => x)
      rintro _ (⟨s, hs, _⟩ | ⟨_, rfl⟩)
      · rw [hp] at hs; cases hs
      refine LW.consK (EW.tupleK (LW.consK (EW.cstr (LW.consK (EW.cbool (LW.nil (⟨_, .cons (.cons .nil), (show 2 ≤ sizeLine by decide), LW.nil ?_⟩)))))))
      refine Spec.eq (alike_spec C hno (n + 80)) ?_ (by (first | lia | omega))
      rfl
    | nil =>
      refine SWs.consK (SW.ife (TW.bool (AW.orCons (TW.cmpK (EW.name 1 rfl rfl (EW.cnone (⟨_, CmpS.isNoneC _ _, ifF (AW.orCons (TW.cmpK (EW.subK (EW.name 1 rfl rfl (EW.cint (⟨_, SubS.pair1, EW.listK (LW.nil (⟨_, .nil, (show 0 ≤ sizeLine by decide), ⟨_, CmpS.neNil, ifF (AW.orNil (ifF (SWs.nil ?_)))⟩⟩))⟩))))))⟩)))))))
      refine SWs.consK (SW.retK (EW.callK rfl (LW.consK (EW.callK rfl (LW.consK (EW.name 0 rfl rfl (LW.nil ?_))) C.f_lread.some)) C.f_alike.some))
      refine (law_read_spec C (n + 3) hx).mono (Nat.le_refl _) ?_ (fun _ x => x)
      rintro _ (⟨s', hs, rfl⟩ | ⟨h, _⟩)
      · rw [hp] at hs; cases hs
        obtain ⟨_, _, hwi, hsm⟩ := parse_len rd (2 ^ 20) 40 _ s [] hp (Nat.le_of_lt hl)
        refine LW.consK (EW.tupleK (LW.consK (EW.cstr (LW.consK (EW.subK (EW.name 1 rfl rfl (EW.cint (⟨_, SubS.pair0, LW.nil (⟨_, .cons (.cons .nil), (show 2 ≤ sizeLine by decide), LW.nil ?_⟩)⟩))))))))
        refine Spec.eq (alike_spec C (two_dg (x := "statement") ((s.dg (by decide) hsm).mono (show 2 * s.wi + 2 ≤ 82 by (first | lia | omega)))) n) ?_ (by (first | lia | omega))
        rfl
      · exact absurd ⟨s, hp⟩ h
end Mine
end

section
open PySem PySem.W PyProof.Rows PySem.Calls PyProof
set_option Elab.async false
set_option maxHeartbeats 3200000
set_option maxRecDepth 100000
set_option linter.unusedVariables false
namespace Mine
variable {B : Bs}
noncomputable def MM : Nat := 10 ^ 60 - 1
theorem MM_lt : MM < 10 ^ 60 := by decide
theorem cnt5 (c : Int) : 1 ≤ 1 + c % 5 ∧ 1 + c % 5 ≤ 5 := by (first | lia | omega)
theorem most60 (j : Int) (h0 : 0 ≤ j) (h1 : j < 2) : ∃ most : Int, 0 < most ∧ most.natAbs ≤ MM ∧ ([D.int 6, D.int (10 ^ (60 : Int).toNat - 1)] : List D)[j.toNat]? = some (.int most) := by
  have : j = 0 ∨ j = 1 := by (first | lia | omega)
  rcases this with rfl | rfl
  · exact ⟨6, by decide, by decide, rfl⟩
  · exact ⟨10 ^ (60 : Int).toNat - 1, by decide, by decide, rfl⟩
theorem take3 {ss : List Str} (h4 : ss.length = 4) : pick (ss.map D.str) none (some 3) = (ss.take 3).map .str := pick_to (k := 3)
theorem tails (j : Int) (h0 : 0 ≤ j) (h1 : j < 4) : ∃ t : Str, t.length ≤ 2 ∧ ([D.str "\n", D.str "\t", D.str " ", D.str "\n\n"] : List D)[j.toNat]? = some (.str t) := by
  have : j = 0 ∨ j = 1 ∨ j = 2 ∨ j = 3 := by (first | lia | omega)
  rcases this with rfl | rfl | rfl | rfl
  · exact ⟨"\n", by decide +kernel, rfl⟩
  · exact ⟨"\t", by decide +kernel, rfl⟩
  · exact ⟨" ", by decide +kernel, rfl⟩
  · exact ⟨"\n\n", by decide +kernel, rfl⟩
theorem wrap_at {s : St} {e : Bool} {nm : Str} (j : Int) (h0 : 0 ≤ j) (h1 : j < 5) : ∃ s' : St, (s' = .neg s ∨ (∃ a, s' = .conn a (l1 s)) ∨ s' = .bind e nm s) ∧
    ([D.tup [.str "not", s.d], D.tup [.str "and", .tup [s.d]], D.tup [.str (bw e), .str nm, s.d]] ++ [D.tup [.str "or", .tup [s.d]], D.tup [.str "not", s.d]] : List D)[j.toNat]? = some s'.d := by
  have : j = 0 ∨ j = 1 ∨ j = 2 ∨ j = 3 ∨ j = 4 := by (first | lia | omega)
  rcases this with rfl | rfl | rfl | rfl | rfl
  · exact ⟨.neg s, .inl rfl, rfl⟩
  · exact ⟨.conn true (l1 s), .inr (.inl ⟨true, rfl⟩), rfl⟩
  · exact ⟨.bind e nm s, .inr (.inr rfl), rfl⟩
  · exact ⟨.conn false (l1 s), .inr (.inl ⟨false, rfl⟩), rfl⟩
  · exact ⟨.neg s, .inl rfl, rfl⟩
theorem wrap_ok {ss : List Str} {s s' : St} {e : Bool} {nm : Str} (hn : nm ∈ ss) (g : s.Gd ss MM) (h : s' = .neg s ∨ (∃ a, s' = .conn a (l1 s)) ∨ s' = .bind e nm s) : s'.Gd ss MM ∧ s'.ws.length ≤ s.ws.length + 2 ∧ s'.dp ≤ s.dp + 1 := by
  rcases h with rfl | ⟨a, rfl⟩ | rfl
  · exact ⟨g, by simp [St.ws], by simp [St.dp]⟩
  · refine ⟨⟨(show 1 ≤ 30 by decide), g, trivial⟩, by simp [St.ws, Sts.ws, l1], by simp [St.dp, Sts.dp, l1]⟩
  · exact ⟨⟨hn, g⟩, by simp [St.ws], by simp [St.dp]⟩
noncomputable abbrev rL (is : List Int) (ss : List Str) (most : Int) (s gr : D) (x5 x6 x7 x8 : Option Sl) : List (Option Sl) :=
  [some (.fz (.lst (is.map .int))), some (.fz (.lst (ss.map .str))), some (.im (.int most)), some (.im s), some (.im gr), x5, x6, x7, x8, none, none, none, none, none]
noncomputable abbrev lawB : List Stmt := bodyOf pw 43
noncomputable def Yes (q : Rs) : Prop := q = .im (.bool true)
theorem cellE (C : Cx B) (n : Nat) {is : List Int} (hl : is.length < 64) {ρ : List (Option Sl)} {k : Int} {p1 p2 p3 p4 : Pos} {q} {Q : AV → Prop} (hs : ρ[0]? = some (some (.fz (.lst (is.map .int))))) (h0 : 0 ≤ k) (h1 : k < 100) (h : Q (.im (.int (cellAt is k)))) :
    EW B F_law NoX (n + 299) ρ (.Call (.Name "_law_cell_at" p1) [.Name "_law_script" p2, .Constant (.int k) q p3] [] p4) Q :=
  EW.callK rfl (LW.consK (EW.name 0 rfl hs (LW.consK (EW.cint (LW.nil ((cell_at_spec C (n + 298) h0 (Int.lt_of_lt_of_le h1 (by decide)) hl).mono (Nat.le_refl _) (fun _ e => by rw [e]; exact h) (fun _ x => x))))))) C.f_cell_at.some
noncomputable def rW (is : List Int) (ss : List Str) (most : Int) (s gr : D) (y5 y6 y7 y8 : Option Sl) (ws : List Str) (got : Str) (z tl x13 : Option Sl) : List (Option Sl) :=
  [some (.fz (.lst (is.map .int))), some (.fz (.lst (ss.map .str))), some (.im (.int most)), some (.im s), some (.im gr), y5, y6, y7, y8, some (.fz (.lst (ws.map .str))), some (.im (.str got)), z, tl, x13]
noncomputable def LQ3 (is : List Int) (ss : List Str) (most : Int) (s gr : D) (y5 y6 y7 y8 : Option Sl) (ws : List Str) (got : Str) (fl : Fl) (ρ' : List (Option Sl)) : Prop := ∃ z : Option Sl, fl = .next ∧ ρ' = rW is ss most s gr y5 y6 y7 y8 ws got z none none
noncomputable def LI3 (is : List Int) (ss : List Str) (most : Int) (s gr : D) (y6 y7 y8 : Option Sl) (ws : List Str) (got : Str) (z tl : Option Sl) (rest : List D) (ρ' : List (Option Sl)) : Prop :=
  ∃ (k : Int) (j : Nat) (x5 x13 : Option Sl), rest = intsFrom k j ∧ ρ' = rW is ss most s gr x5 y6 y7 y8 ws got z tl x13
theorem law_asks (C : Cx B) (n : Nat) {is : List Int} (hl : is.length < 64) {ss : List Str} {most : Int} {s gr : D} {y5 y6 y7 y8 z : Option Sl} {ws : List Str} {got : Str} (wne : 1 ≤ ws.length) (wl : ws.length ≤ 11000) (wok : ∀ w ∈ ws, w.length ≤ 61) (hg : got.length ≤ 900000) :
    SWs B F_law NoX (n + 299) (rW is ss most s gr y5 y6 y7 y8 ws got z none none) (lawB.drop 11) (RetOk Yes) := by
  have hq := C.quiet
  -- _law_tail
  obtain ⟨tl, htl, hta⟩ := tails (cellAt is 8 / 8 % 4) (em0 _) (em1 _)
  refine SWs.consK (SW.assignK 12 rfl (by decide) (by decide) (EW.subK (EW.listK (LW.consK (EW.cstr (LW.consK (EW.cstr (LW.consK (EW.cstr (LW.consK (EW.cstr (LW.nil (⟨_, .cons (.cons (.cons (.cons .nil))), (show 4 ≤ sizeLine by decide), EW.binK (EW.binK (cellE C n hl rfl (by decide) (by decide) (EW.cint (⟨_, BinS.fdivP (by decide) (by decide), EW.cint (⟨_, BinS.modP (by decide), ⟨_, SubS.list (em0 _) (em63 _) hta, ⟨_, rfl, ?_⟩⟩⟩)⟩))))⟩)))))))))))))
  -- if not _law_is_due(_law_got) or ..
  have l1 : (got ++ tl).length = got.length + tl.length := Array.size_append
  have l2 : (tl ++ got).length = tl.length + got.length := Array.size_append
  have g1 : got.length + tl.length < 1000000 := by (first | lia | omega)
  have due : ∀ {x : Str} {Q : Rs → Prop}, x.length < 1000000 → Q (.im (.bool true)) → Spec B "_law_is_due" NoX (n + 299) [.im (.str x)] Q := fun {x Q} hx h => (law_is_due_spec C (n + 209) hx).mono (Nat.le_refl _) (fun _ e => by rw [e]; exact h) (fun _ x => x)
  refine SWs.consK (SW.ife (TW.bool (AW.orCons (TW.not (TW.valK (EW.callK rfl (LW.consK (EW.name 10 rfl rfl (LW.nil (due (Nat.lt_of_le_of_lt (Nat.le_add_right _ _) g1) ⟨_, TruS.bool _, ifF (AW.orCons (TW.not (TW.valK (EW.callK rfl (LW.consK (EW.binK (EW.name 10 rfl rfl (EW.name 12 rfl rfl (⟨_, BinS.addS (le_sz (Nat.le_of_lt g1)), LW.nil ?_⟩))))) C.f_is_due.some))))⟩)))) C.f_is_due.some))))))
  refine due (l1 ▸ g1) ⟨_, TruS.bool _, ifF (AW.orCons (TW.not (TW.valK (EW.callK rfl (LW.consK (EW.binK (EW.name 12 rfl rfl (EW.name 10 rfl rfl (⟨_, BinS.addS (Nat.add_comm _ _ ▸ le_sz (Nat.le_of_lt g1)), LW.nil ?_⟩))))) C.f_is_due.some))))⟩
  refine due (by rw [l2, Nat.add_comm]; exact g1) ⟨_, TruS.bool _, ifF (AW.orNil (ifF (SWs.nil ?_)))⟩
  -- for _law_k in range(4):
  refine SWs.consK (SW.forK (EW.bcallK rfl C.b_range bb_range trivial (LW.consK (EW.cint (LW.nil (⟨_, BuiS.range1 _, ⟨_, IterS.rng (by decide) (by decide) (by decide) (by decide),
    LI3 is ss most s gr y6 y7 y8 ws got z (some (.im (.str tl))), ?_, ?_, ?_⟩⟩))))))
  · exact ⟨0, _, y5, none, rfl, rfl⟩
  · rintro d rest ρ' ⟨k, j, x5, x13, e1, rfl⟩
    cases j with
    | zero => cases e1
    | succ j =>
      cases e1
      refine AsW.name 5 rfl (by decide) (by decide) ?_
      refine SWs.consK (SW.assignK 13 rfl (by decide) (by decide) (EW.binK (EW.binK (EW.binK (EW.binK (EW.binK (cellE C n hl rfl (by decide) (by decide) (EW.cint (⟨_, BinS.fdivP (by decide) (by decide), EW.cint (⟨_, BinS.add _ _, EW.name 5 rfl rfl (⟨_, BinS.add _ _, EW.cint (⟨_, BinS.mul (IntMulOk.of_right (by decide)), EW.cint (⟨_, BinS.modP (by decide), ⟨_, rfl, ?_⟩⟩)⟩)⟩)⟩)⟩)))))))))
      generalize (cellAt is 1 / 5 + 1 + k) * 48271 % 2147483647 = cl
      refine SWs.consK (SW.ife (TW.not (TW.valK (EW.callK rfl (LW.consK (EW.join (EW.cstr (⟨_, rfl, EW.callK rfl (LW.consK (EW.name 9 rfl rfl (LW.consK (EW.name 13 rfl rfl (LW.nil ?_))))) C.f_changed.some⟩)))) C.f_is_due.some))))
      refine (law_changed_spec C (n + 298) wne wl wok).mono (Nat.le_refl _) ?_ (fun _ x => x)
      rintro _ ⟨ws', h1, h2, rfl⟩
      exact ⟨_, ws', rfl, join_fit h1 h2, LW.nil (due (Nat.lt_of_le_of_lt (join_len h1 h2) (by decide)) ⟨_, TruS.bool _, ifF (SWs.nil (SWs.nil ⟨k + 1, j, _, _, rfl, rfl⟩))⟩)⟩
  · rintro ρ' ⟨k, j, x5, x13, e1, rfl⟩
    exact SWs.nil (SWs.consK (SW.retK (EW.cbool rfl)))
theorem law_says (C : Cx B) (n : Nat) {is : List Int} (hl : is.length < 64) {ss : List Str} {most : Int} {gr : D} {y5 y6 y7 y8 : Option Sl} {s2 : St} (h4 : ss.length = 4) (hnm : ∀ x ∈ ss, nameW x = true) (g2 : s2.Gd ss MM) (w2 : s2.ws.length ≤ 10700) (d2 : s2.dp ≤ 180) :
    SWs B F_law NoX (n + 299) (rL is ss most s2.d gr y5 y6 y7 y8) (lawB.drop 7) (RetOk Yes) := by
  have hq := C.quiet
  have ok2 := St.Ok.of hnm MM_lt g2
  have wok := St.ws_ok ok2
  have wne : 1 ≤ s2.ws.length := List.length_pos_iff.mpr s2.ws_ne
  have wl : s2.ws.length ≤ 12000 := Nat.le_trans w2 (by decide)
  have w70 : ∀ w ∈ s2.ws, w.length ≤ 70 := fun w h => Nat.le_trans (wok w h).len (by decide)
  have sm2 : s2.Sm 12000 := St.Gd.sm (by rw [h4]; decide) (by decide) g2
  have hjl := join_len wl w70
  have hjs : Txt.split (Txt.join " " s2.ws) " " = s2.ws := split_join s2.ws_ne (fun w h => (wok w h).free)
  -- _law_words_here = _law_words(_law_statement)
  refine SWs.consK (SW.assignK 9 rfl (by decide) (by decide) (EW.callK rfl (LW.consK (EW.name 3 rfl rfl (LW.nil ?_))) C.f_words.some))
  refine Spec.eq (words_spec C MM_lt s2 g2 wl (n + 297 - s2.dp)) ?_ (by (first | lia | omega))
  refine ⟨_, rfl, ?_⟩
  refine SWs.freeze 9 rfl ?_
  -- _law_got = ' '.join(_law_words_here)
  refine SWs.consK (SW.assignK 10 rfl (by decide) (by decide) (EW.join (EW.cstr (⟨_, rfl, EW.name 9 rfl rfl (⟨_, s2.ws, rfl, join_fit wl w70, ⟨_, rfl, ?_⟩⟩)⟩))))
  generalize hgot : Txt.join " " s2.ws = got at *
  -- if MOST_WITHIN != 40:
  obtain ⟨vM, m1, m2⟩ := c_MOST_WITHIN C.kin
  refine SWs.consK (SW.ife (TW.cmpK (EW.glob rfl m1 m2 (EW.cint (⟨_, CmpS.neI _ _, ifF (SWs.nil ?_)⟩)))))
  -- if _law_within(_law_statement) <= 40:
  refine SWs.consK (SW.mono (Q := LQ3 is ss most s2.d gr y5 y6 y7 y8 s2.ws got) (SW.ife (TW.cmpK (EW.callK rfl (LW.consK (EW.name 3 rfl rfl (LW.nil ?_))) C.f_within.some))) ?_)
  · refine (within_spec C s2 (n + 298 - s2.dp) sm2).mono (by (first | lia | omega)) ?_ (fun _ x => x)
    rintro _ rfl
    refine EW.cint (⟨_, CmpS.leI _ _, ?_⟩)
    by_cases hwi : s2.wi ≤ 40
    · refine ifTd (decide_eq_true (Int.ofNat_le.mpr hwi)) ?_
      have hback : parse rd 40 s2.ws = some (s2, []) := by
        have := s2.back rd_ok 40 [] hwi ok2
        rwa [List.append_nil] at this
      -- _law_note = written(_law_statement)
      refine SWs.consK (SW.assignK 11 rfl (by decide) (by decide) (EW.callK rfl (LW.consK (EW.name 3 rfl rfl (LW.nil ?_))) C.f_written.some))
      refine Spec.eq (written_spec C hnm MM_lt g2 wl (n + 296 - s2.dp)) ?_ (by (first | lia | omega))
      rw [hgot]
      refine ⟨_, rfl, ?_⟩
      refine SWs.consK (SW.ife (TW.bool (AW.orCons (TW.not (TW.valK (EW.isiK rfl C.b_isinstance rfl C.b_str bb_str (EW.name 11 rfl rfl (⟨_, (IsiS.str_ _).2.2.1, ⟨_, TruS.bool _, ifF (AW.orCons (TW.cmpK (EW.name 11 rfl rfl (EW.name 10 rfl rfl (⟨_, CmpS.neS _ _, ?_⟩)))))⟩⟩))))))))
      refine ifFd (by simp) (AW.orCons (TW.not (TW.valK (EW.callK rfl (LW.consK (EW.callK rfl (LW.consK (EW.name 10 rfl rfl (LW.nil ?_))) C.f_lread.some)) C.f_alike.some))))
      refine (law_read_spec C (n + 213) (Nat.lt_of_le_of_lt hjl (by decide))).mono (Nat.le_refl _) ?_ (fun _ x => x)
      rw [hjs]
      rintro _ (⟨s', hs', rfl⟩ | ⟨h, _⟩)
      · rw [hback] at hs'; cases hs'
        refine LW.consK (EW.tupleK (LW.consK (EW.cstr (LW.consK (EW.name 3 rfl rfl (LW.nil (⟨_, .cons (.cons .nil), (show 2 ≤ sizeLine by decide), LW.nil ?_⟩)))))))
        refine Spec.eq (alike_spec C (two_dg (x := "statement") ((s2.dg (N := 12000) (by decide) sm2).mono (show 2 * s2.wi + 2 ≤ 82 by (first | lia | omega)))) (n + 200)) ?_ (by (first | lia | omega))
        exact ⟨_, TruS.bool _, ifF (AW.orNil (ifF (SWs.nil (SWs.nil ⟨_, rfl, rfl⟩))))⟩
      · exact absurd ⟨s2, hback⟩ h
    · exact ifFd (decide_eq_false fun q => hwi (Int.ofNat_le.mp q)) (SWs.nil ⟨none, rfl, rfl⟩)
  rintro fl ρ' ⟨z, rfl, rfl⟩
  exact law_asks C n hl wne (Nat.le_trans w2 (by decide)) (fun w h => (wok w h).len) (Nat.le_trans hjl (by decide))
noncomputable def LI2 (is : List Int) (ss : List Str) (most : Int) (gr : D) (rest : List D) (ρ' : List (Option Sl)) : Prop :=
  ∃ (j t : Nat) (k : Int) (s : St) (x5 x6 x7 x8 : Option Sl), rest = intsFrom k j ∧ t + j ≤ 41 ∧ s.Gd ss MM ∧ s.ws.length ≤ 10557 + 2 * t ∧ s.dp ≤ 133 + t ∧ ρ' = rL is ss most s.d gr x5 x6 x7 x8
noncomputable def LQ2 (is : List Int) (ss : List Str) (most : Int) (gr : D) (fl : Fl) (ρ' : List (Option Sl)) : Prop :=
  ∃ (s : St) (x5 x6 x7 x8 : Option Sl), fl = .next ∧ s.Gd ss MM ∧ s.ws.length ≤ 10700 ∧ s.dp ≤ 180 ∧ ρ' = rL is ss most s.d gr x5 x6 x7 x8
theorem law_deep (C : Cx B) (n : Nat) {is : List Int} (hl : is.length < 64) {ss : List Str} {most : Int} {gr : D} {x5 : Option Sl} {s : St} (h4 : ss.length = 4) (hnm : ∀ x ∈ ss, nameW x = true) (gs : s.Gd ss MM) (hs1 : s.ws.length ≤ 10557) (hs2 : s.dp ≤ 133) :
    SWs B F_law NoX (n + 299) (rL is ss most s.d gr x5 none none none) (lawB.drop 6) (RetOk Yes) := by
  have hq := C.quiet
  refine SWs.consK (SW.mono (Q := LQ2 is ss most gr) (SW.ife (TW.cmpK (EW.binK (cellE C n hl rfl (by decide) (by decide) (EW.cint (⟨_, BinS.modP (by decide), EW.cint (⟨_, CmpS.eqI _ _, ?_⟩)⟩)))))) ?_)
  · try dsimp only
    split
    · -- for _law_k in range(40 + _law_cell_at(_law_script, 8) // 4 % 2 - _law_within(_law_statement)):
      refine SWs.consK (SW.forK (EW.bcallK rfl C.b_range bb_range trivial (LW.consK (EW.binK (EW.binK (EW.cint (EW.binK (EW.binK (cellE C n hl rfl (by decide) (by decide) (EW.cint (⟨_, BinS.fdivP (by decide) (by decide), EW.cint (⟨_, BinS.modP (by decide), ⟨_, BinS.add _ _, EW.callK rfl (LW.consK (EW.name 3 rfl rfl (LW.nil ?_))) C.f_within.some⟩⟩)⟩)))))))))))
      refine Spec.eq (within_spec C s (n + 298 - s.dp) (St.Gd.sm (by rw [h4]; decide) (by decide) gs)) ?_ (by (first | lia | omega))
      have hwi := s.wi_dp
      have hc := em1 (cellAt is 8 / 4) (b := 2)
      have hc0 := em0 (cellAt is 8 / 4) (b := 2)
      generalize cellAt is 8 / 4 % 2 = c2 at *
      refine ⟨_, BinS.sub _ _, LW.nil (⟨_, BuiS.range1 _, ⟨_, IterS.rng (by decide) (by decide) (by (first | lia | omega)) (by (first | lia | omega)), LI2 is ss most gr, ?_, ?_, ?_⟩⟩)⟩
      · exact ⟨_, 0, 0, s, x5, none, none, none, rfl, by (first | lia | omega), gs, hs1, hs2, rfl⟩
      · clear hwi hc hc0 hs1 hs2 gs
        rintro d rest ρ' ⟨j, t, k, s, x5, x6, x7, x8, e1, e4, gs, ws_, ds_, rfl⟩
        cases j with
        | zero => cases e1
        | succ j =>
          cases e1
          refine AsW.name 5 rfl (by decide) (by decide) ?_
          -- _law_inner
          refine SWs.consK (SW.assignK 6 rfl (by decide) (by decide) (EW.subK (EW.listK (LW.consK (EW.cstr (LW.consK (EW.cstr (LW.nil (⟨_, .cons (.cons .nil), (show 2 ≤ sizeLine by decide), EW.binK (EW.binK (EW.name 5 rfl rfl (EW.cint (⟨_, BinS.fdivP (by decide) (by decide), EW.cint (⟨_, BinS.modP (by decide), ⟨_, SubS.list (em0 _) (em63 _) (someall _ (em0 _) (em1 _)), ⟨_, rfl, ?_⟩⟩⟩)⟩))))⟩)))))))))
          -- _law_far
          refine SWs.consK (SW.assignK 7 rfl (by decide) (by decide) (EW.binK (EW.binK (cellE C n hl rfl (by decide) (by decide) (EW.cint (⟨_, BinS.fdivP (by decide) (by decide), EW.name 5 rfl rfl (⟨_, BinS.add _ _, ⟨_, rfl, ?_⟩⟩)⟩))))))
          generalize cellAt is 8 / 32 + k = far
          -- _law_wraps
          refine SWs.consK (SW.assignK 8 rfl (by decide) (by decide) (EW.listK (LW.consK (EW.tupleK (LW.consK (EW.cstr (LW.consK (EW.name 3 rfl rfl (LW.nil (⟨_, .cons (.cons .nil), (show 2 ≤ sizeLine by decide), LW.consK (EW.tupleK (LW.consK (EW.cstr (LW.consK (EW.tupleK (LW.consK (EW.name 3 rfl rfl (LW.nil (⟨_, .cons .nil, (show 1 ≤ sizeLine by decide), LW.nil (⟨_, .cons (.cons .nil), (show 2 ≤ sizeLine by decide), LW.consK (EW.tupleK (LW.consK (EW.name 6 rfl rfl (LW.consK (EW.subK (EW.name 1 rfl rfl (EW.binK (EW.binK (EW.name 7 rfl rfl (EW.cint (⟨_, BinS.fdivP (by decide) (by decide), EW.cint (⟨_, BinS.modP (by decide), ⟨_, SubS.list (em0 _) (em63 _) (nameAt h4 _ (em0 _) (em1 _)), LW.consK (EW.name 3 rfl rfl (LW.nil (⟨_, .cons (.cons (.cons .nil)), (show 3 ≤ sizeLine by decide), LW.nil (⟨_, .cons (.cons (.cons .nil)), (show 3 ≤ sizeLine by decide), ⟨_, rfl, ?_⟩⟩)⟩)))⟩⟩)⟩)))))))))))⟩)⟩)))))))))⟩))))))))))
          have hnmem : ss.getD (far / 5 % 4).toNat default ∈ ss := by
            have hj : (far / 5 % 4).toNat < ss.length := by rw [h4]; exact emT _
            rw [List.getD_eq_getElem?_getD, List.getElem?_eq_getElem hj]; exact List.getElem_mem hj
          generalize ss.getD (far / 5 % 4).toNat default = nm at *
          obtain ⟨s', hs', hat⟩ := wrap_at (s := s) (e := decide (k / 5 % 2 = 0)) (nm := nm) (far % 5) (em0 _) (em1 _)
          obtain ⟨g', w', d'⟩ := wrap_ok hnmem gs hs'
          -- _law_statement
          refine SWs.consK (SW.assignK 3 rfl (by decide) (by decide) (EW.subK (EW.binK (EW.name 8 rfl rfl (EW.listK (LW.consK (EW.tupleK (LW.consK (EW.cstr (LW.consK (EW.tupleK (LW.consK (EW.name 3 rfl rfl (LW.nil (⟨_, .cons .nil, (show 1 ≤ sizeLine by decide), LW.nil (⟨_, .cons (.cons .nil), (show 2 ≤ sizeLine by decide), LW.consK (EW.tupleK (LW.consK (EW.cstr (LW.consK (EW.name 3 rfl rfl (LW.nil (⟨_, .cons (.cons .nil), (show 2 ≤ sizeLine by decide), LW.nil (⟨_, .cons (.cons .nil), (show 2 ≤ sizeLine by decide), ⟨_, BinS.addL (show 5 ≤ sizeLine by decide), EW.binK (EW.name 7 rfl rfl (EW.cint (⟨_, BinS.modP (by decide), ⟨_, SubS.list (em0 _) (em63 _) hat, ⟨_, rfl, ?_⟩⟩⟩)))⟩⟩)⟩)))))))⟩)⟩)))))))))))))))
          refine SWs.nil ⟨j, t + 1, k + 1, s', _, _, _, _, rfl, by (first | lia | omega), g', by (first | lia | omega), by (first | lia | omega), rfl⟩
      · rintro ρ' ⟨j, t, k, s, x5, x6, x7, x8, e1, e4, gs, ws_, ds_, rfl⟩
        refine SWs.nil (SWs.nil ⟨s, x5, x6, x7, x8, rfl, gs, by (first | lia | omega), by (first | lia | omega), rfl⟩)
    · exact SWs.nil ⟨s, x5, none, none, none, rfl, gs, Nat.le_trans hs1 (by decide), Nat.le_trans hs2 (by decide), rfl⟩
  rintro fl ρ' ⟨s2, y5, y6, y7, y8, rfl, g2, w2, d2, rfl⟩
  exact law_says C n hl h4 hnm g2 w2 d2
noncomputable def LI1 (is : List Int) (ss : List Str) (most : Int) (gr : D) (rest : List D) (ρ' : List (Option Sl)) : Prop :=
  ∃ (k : Int) (j t : Nat) (s : St) (x : Option Sl), rest = intsFrom k j ∧ 0 ≤ k ∧ k + j ≤ 3 ∧ t + j ≤ 3 ∧ s.Gd ss MM ∧ s.ws.length + 11 ≤ 2 ^ t * 1321 ∧ s.dp ≤ 121 + 4 * t ∧ ρ' = rL is ss most s.d gr x none none none
theorem law_bound (C : Cx B) (n : Nat) {is : List Int} (hl : is.length < 64) {ss : List Str} {most : Int} {gr : D} {s1 : St} (h4 : ss.length = 4) (hnm : ∀ x ∈ ss, nameW x = true) (g1 : s1.Gd ss MM) (w1 : s1.ws.length ≤ 1310) (d1 : s1.dp ≤ 121) :
    SWs B F_law NoX (n + 299) (rL is ss most s1.d gr none none none none) (lawB.drop 5) (RetOk Yes) := by
  have hq := C.quiet
  have hc0 := em0 (cellAt is 4) (b := 4)
  have hc := em1 (cellAt is 4) (b := 4)
  refine SWs.consK (SW.forK (EW.bcallK rfl C.b_range bb_range trivial (LW.consK (EW.binK (cellE C n hl rfl (by decide) (by decide) (EW.cint (⟨_, BinS.modP (by decide), LW.nil (⟨_, BuiS.range1 _, ⟨_, IterS.rng (by decide) (by decide) (em62l _) (em62 _), LI1 is ss most gr, ?_, ?_, ?_⟩⟩)⟩)))))))
  · exact ⟨0, _, 0, s1, none, rfl, by decide, by (first | lia | omega), by (first | lia | omega), g1, by simp; (first | lia | omega), by (first | lia | omega), rfl⟩
  · clear hc0 hc g1 w1 d1
    rintro d rest ρ' ⟨k, j, t, s, x, e1, e2, e3, e4, gs, ws_, ds_, rfl⟩
    cases j with
    | zero => cases e1
    | succ j =>
      cases e1
      refine AsW.name 5 rfl (by decide) (by decide) ?_
      refine SWs.consK (SW.assignK 3 rfl (by decide) (by decide) (EW.callK rfl (LW.consK (EW.callK rfl (LW.consK (EW.name 0 rfl rfl (LW.consK (EW.binK (EW.cint (EW.name 5 rfl rfl (⟨_, BinS.add _ _, LW.nil ?_⟩))))))) C.f_cell_at.some)) C.f_bound_by.some))
      refine Spec.eq (cell_at_spec C (n + 298) (by (first | lia | omega)) (by (first | lia | omega)) hl) ?_ (Nat.le_refl _)
      refine LW.consK (EW.name 3 rfl rfl (LW.consK (EW.name 1 rfl rfl (LW.nil ?_))))
      refine Spec.eq (bound_by_spec C (n + 298) h4) ?_ (Nat.le_refl _)
      refine ⟨_, rfl, SWs.nil ?_⟩
      have hb := bound_ws (names := ss) (c := cellAt is (5 + k)) (s := s)
      have hd := bound_dp (names := ss) (c := cellAt is (5 + k)) (s := s)
      exact ⟨k + 1, j, t + 1, boundSt (cellAt is (5 + k)) s ss, _, rfl, by (first | lia | omega), by (first | lia | omega), by (first | lia | omega), bound_gd gs h4 (fun x h => h), by rw [Nat.pow_succ]; (first | lia | omega), by (first | lia | omega), rfl⟩
  rintro ρ' ⟨k, j, t, s, x5, e1, e2, e3, e4, gs, ws_, ds_, rfl⟩
  have : 2 ^ t ≤ 2 ^ 3 := Nat.pow_le_pow_right (by decide) (by (first | lia | omega))
  exact SWs.nil (law_deep C n hl h4 hnm gs (by (first | lia | omega)) (by (first | lia | omega)))
noncomputable def LQ1 (is : List Int) (ss : List Str) (most : Int) (gr : D) (fl : Fl) (ρ' : List (Option Sl)) : Prop :=
  ∃ s : St, fl = .next ∧ s.Gd ss MM ∧ s.ws.length ≤ 1310 ∧ s.dp ≤ 121 ∧ ρ' = rL is ss most s.d gr none none none none
theorem great_ok {ss : List Str} {s0 : St} {i1 v : Int} {nm : Str} (hn : nm ∈ ss) (hi : i1.natAbs < 10 ^ 60) (hv0 : v ≠ 0) (hv1 : v < 10 ^ (60 : Int).toNat) (hv2 : 0 - 10 ^ (60 : Int).toNat < v) (g0 : s0.Gd ss MM) (w0 : s0.ws.length ≤ 1300) (d0 : s0.dp ≤ 120) :
    (St.conn false (l2 (.nought i1 [(nm, v)]) s0)).Gd ss MM ∧ (St.conn false (l2 (.nought i1 [(nm, v)]) s0)).ws.length ≤ 1310 ∧ (St.conn false (l2 (.nought i1 [(nm, v)]) s0)).dp ≤ 121 := by
  have e : (10 : Int) ^ (60 : Int).toNat = 1000000000000000000000000000000000000000000000000000000000000 := by decide
  have e2 : MM = 999999999999999999999999999999999999999999999999999999999999 := by decide
  have e3 : (10 : Nat) ^ 60 = 1000000000000000000000000000000000000000000000000000000000000 := by decide
  rw [e] at hv1 hv2
  rw [e3] at hi
  refine ⟨⟨(show 2 ≤ 30 by decide), ⟨⟨by simp, fun p hp => by rw [List.mem_singleton.mp hp]; exact hv0, fun p hp => by rw [List.mem_singleton.mp hp]; exact hn⟩, fun p hp => ?_, ?_⟩, g0, trivial⟩, ?_, ?_⟩
  · rw [List.mem_singleton.mp hp, e2]; (first | lia | omega)
  · rw [e2]; (first | lia | omega)
  · simp [St.ws, Sts.ws, l2, sumWs, pairsWs]; (first | lia | omega)
  · simp [St.dp, Sts.dp, l2]; (first | lia | omega)
theorem law_spec (C : Cx B) (n : Nat) {is : List Int} (hl : is.length < 64) : Spec B "law" NoX (n + 300) [.ct (.lst (is.map .int))] Yes := by
  refine Spec.of_body (F := F_law) C.f_law rfl (by decide) rfl ?_
  have hq := C.quiet
  refine SWs.consK (SW.assignK 1 rfl (by decide) (by decide) (EW.callK rfl (LW.consK (cellE C n hl rfl (by decide) (by decide) (LW.nil ?_))) C.f_names_by.some))
  refine (names_by_spec C (n + 298)).mono (Nat.le_refl _) ?_ (fun _ x => x)
  rintro _ ⟨ss, h4, hnd, hnm, rfl⟩
  refine ⟨_, rfl, ?_⟩
  refine SWs.freeze 1 rfl ?_
  have hnd3 : (ss.take 3).Nodup := hnd.sublist (List.take_sublist _ _)
  have h3 : (ss.take 3).length ≤ 3 := List.length_take_le ..
  have hs4 : (ss.map D.str).length ≤ sizeLine := by rw [List.length_map, h4]; decide
  have sub3 : ∀ x ∈ ss.take 3, x ∈ ss := fun x hx => List.mem_of_mem_take hx
  -- _law_most
  obtain ⟨most, hm0, hmM, hme⟩ := most60 (cellAt is 1 / 5 % 2) (em0 _) (em1 _)
  refine SWs.consK (SW.assignK 2 rfl (by decide) (by decide) (EW.subK (EW.listK (LW.consK (EW.cint (LW.consK (EW.binK (EW.binK (EW.cint (EW.cint (⟨_, BinS.pow (by decide) (by decide) (by decide), EW.cint (⟨_, BinS.sub _ _, LW.nil (⟨_, .cons (.cons .nil), (show 2 ≤ sizeLine by decide), EW.binK (EW.binK (cellE C n hl rfl (by decide) (by decide) (EW.cint (⟨_, BinS.fdivP (by decide) (by decide), EW.cint (⟨_, BinS.modP (by decide), ⟨_, SubS.list (em0 _) (em63 _) hme, ⟨_, rfl, ?_⟩⟩⟩)⟩))))⟩)⟩)⟩)))))))))))
  -- _law_statement
  refine SWs.consK (SW.assignK 3 rfl (by decide) (by decide) (EW.callK rfl (LW.consK (EW.name 0 rfl rfl (LW.consK (EW.cint (LW.consK (EW.binK (EW.cint (EW.binK (cellE C n hl rfl (by decide) (by decide) (EW.cint (⟨_, BinS.modP (by decide), ⟨_, BinS.add _ _, LW.consK (EW.sliceK (EW.name 1 rfl rfl (PW.none (PW.someK (EW.cint (⟨_, rfl, ⟨_, SlcS.list hs4, LW.consK (EW.cint (LW.consK (EW.name 2 rfl rfl (LW.nil ?_))))⟩⟩))))))⟩⟩))))))))))) C.f_plain_by.some))
  rw [take3 h4]
  have hc5 := cnt5 (cellAt is 1)
  generalize 1 + cellAt is 1 % 5 = cnt at *
  refine Spec.eq (plain_by_spec C (n + 296) (by decide) hm0 (Nat.lt_of_le_of_lt h3 (by decide)) hl (by decide) (by decide) hc5.1 (Int.le_trans hc5.2 (by decide))) ?_ (Nat.le_refl _)
  refine ⟨_, rfl, ?_⟩
  have g0 : (plainSt is 9 cnt (ss.take 3) 3 most).Gd ss MM := plain_gd hnd3 sub3 (by decide) (by decide) hm0 hmM (by decide)
  have w0 : (plainSt is 9 cnt (ss.take 3) 3 most).ws.length ≤ 1300 := plain_ws h3 hc5.2
  have d0 : (plainSt is 9 cnt (ss.take 3) 3 most).dp ≤ 120 := plain_dp (Int.le_trans hc5.2 (by decide))
  generalize plainSt is 9 cnt (ss.take 3) 3 most = s0 at *
  -- _law_great
  obtain ⟨nm3, hn3⟩ : ∃ nm, ss[3]? = some nm := ⟨ss[3], List.getElem?_eq_getElem (by rw [h4]; decide)⟩
  have hn3m : nm3 ∈ ss := List.mem_of_getElem? hn3
  have hg3 : (ss.map D.str)[(3 : Int).toNat]? = some (.str nm3) := by
    show (ss.map D.str)[3]? = _
    rw [List.getElem?_map, hn3]; rfl
  refine SWs.consK (SW.assignK 4 rfl (by decide) (by decide) (EW.tupleK (LW.consK (EW.callK rfl (LW.consK (cellE C n hl rfl (by decide) (by decide) (LW.nil ?_))) C.f_big_by.some))))
  refine (big_by_spec C (n + 298)).mono (Nat.le_refl _) ?_ (fun _ x => x)
  rintro _ ⟨i1, hi1, rfl⟩
  refine LW.consK (EW.tupleK (LW.consK (EW.tupleK (LW.consK (EW.subK (EW.name 1 rfl rfl (EW.cint (⟨_, SubS.list (by decide) (by decide) hg3, LW.consK (EW.binK (EW.binK (EW.callK rfl (LW.consK (EW.binK (cellE C n hl rfl (by decide) (by decide) (EW.cint (⟨_, BinS.fdivP (by decide) (by decide), LW.nil ?_⟩))))) C.f_big_by.some)))⟩))))))))
  refine (big_by_spec C (n + 298)).mono (Nat.le_refl _) ?_ (fun _ x => x)
  rintro _ ⟨i2, hi2, rfl⟩
  refine EW.cint (⟨_, BinS.mul (IntMulOk.of_right (by decide)), EW.cint (⟨_, BinS.add _ _, LW.nil (⟨_, .cons (.cons .nil), (show 2 ≤ sizeLine by decide), LW.nil (⟨_, .cons .nil, (show 1 ≤ sizeLine by decide), LW.nil (⟨_, .cons (.cons .nil), (show 2 ≤ sizeLine by decide), ⟨_, rfl, ?_⟩⟩)⟩)⟩)⟩)⟩)
  have hodd : i2 * 2 + 1 ≠ 0 := by (first | lia | omega)
  generalize i2 * 2 + 1 = v at *
  -- if _law_great[1][0][1] < 10 ** 60 and ..
  refine SWs.consK (SW.mono (Q := LQ1 is ss most (sumD i1 [(nm3, v)]))
    (SW.ife (TW.bool (AW.andCons (TW.cmpK (EW.subK (EW.subK (EW.subK (EW.name 4 rfl rfl (EW.cint (⟨_, SubS.tup (j := 1) (by decide) (by decide) rfl rfl, EW.cint (⟨_, SubS.tup (j := 0) (by decide) (by decide) rfl rfl, EW.cint (⟨_, SubS.tup (j := 1) (by decide) (by decide) rfl rfl, EW.binK (EW.cint (EW.cint (⟨_, BinS.pow (by decide) (by decide) (by decide), ⟨_, CmpS.ltI _ _, ?_⟩⟩)))⟩)⟩)⟩)))))))))) ?_)
  · have skip : SWs B F_law NoX (n + 299) (rL is ss most s0.d (sumD i1 [(nm3, v)]) none none none none) [] (LQ1 is ss most (sumD i1 [(nm3, v)])) :=
      SWs.nil ⟨s0, rfl, g0, Nat.le_trans w0 (by decide), Nat.le_trans d0 (by decide), rfl⟩
    by_cases hv1 : v < 10 ^ (60 : Int).toNat
    · refine ifTd (decide_eq_true hv1) (AW.andCons (TW.cmpK (EW.subK (EW.subK (EW.subK (EW.name 4 rfl rfl (EW.cint (⟨_, SubS.tup (j := 1) (by decide) (by decide) rfl rfl, EW.cint (⟨_, SubS.tup (j := 0) (by decide) (by decide) rfl rfl, EW.cint (⟨_, SubS.tup (j := 1) (by decide) (by decide) rfl rfl, EW.binK (EW.cint (EW.binK (EW.cint (EW.cint (⟨_, BinS.pow (by decide) (by decide) (by decide), ⟨_, BinS.sub _ _, ⟨_, CmpS.gtI _ _, ?_⟩⟩⟩)))))⟩)⟩)⟩))))))))
      by_cases hv2 : 0 - 10 ^ (60 : Int).toNat < v
      · obtain ⟨gg, gw, gd⟩ := great_ok hn3m hi1 hodd hv1 hv2 g0 w0 d0
        exact ifTd (decide_eq_true hv2) (AW.andNil (ifT (SWs.consK (SW.assignK 3 rfl (by decide) (by decide) (EW.tupleK (LW.consK (EW.cstr (LW.consK (EW.tupleK (LW.consK (EW.tupleK (LW.consK (EW.cstr (LW.consK (EW.name 4 rfl rfl (LW.nil (⟨_, .cons (.cons .nil), (show 2 ≤ sizeLine by decide), LW.consK (EW.name 3 rfl rfl (LW.nil (⟨_, .cons (.cons .nil), (show 2 ≤ sizeLine by decide), LW.nil (⟨_, .cons (.cons .nil), (show 2 ≤ sizeLine by decide), ⟨_, rfl, SWs.nil ⟨_, rfl, gg, gw, gd, rfl⟩⟩⟩)⟩)))⟩)))))))))))))))))
      · exact ifFd (decide_eq_false hv2) (ifF skip)
    · exact ifFd (decide_eq_false hv1) (ifF skip)
  rintro fl ρ' ⟨s1, rfl, g1, w1, d1, rfl⟩
  exact law_bound C n hl h4 hnm g1 w1 d1
end Mine
end

section
open PySem PySem.W PyProof.Rows
set_option Elab.async false
set_option maxRecDepth 100000
set_option maxHeartbeats 8000000
namespace Mine
noncomputable def pickIx (l : List Stmt) (ks : List Nat) : List Stmt := ks.filterMap (l[·]?)
noncomputable def view : Program := { pw with main := { pw.main with body := pickIx pw.main.body [1, 2, 3, 4, 6, 7, 8, 9, 10, 11, 12, 13, 14, 15, 16, 17, 18, 19, 20, 22, 23, 24, 25, 26, 27, 28, 29, 30, 31, 32, 33, 34, 35, 36, 37, 38, 39, 40, 41, 42, 43] } }
end Mine
end

open PySem PySem.W PyProof.Rows
set_option Elab.async false
set_option maxRecDepth 100000 in
set_option maxHeartbeats 8000000 in
theorem PySem.Challenge.cw_uf010003_10_holds : PySem.Challenge.rw_uf010003_10.Holds := by
  w_on; o_law
  refine holds_open (q := Mine.view) (loose := []) (Xt := fun s => xlAt Mine.view [] s && recOk (RowW.records (OpenRow.toRowW (PySem.Challenge.rw_uf010003_10.row))) s) (XP := XL Mine.view []) (Yf := Hook.obs (kHook Mine.kf [2, 3, 22, 23, 24, 25, 35, 36, 37, 47, 48, 49, 59, 60, 61] (fun _ => by kernel_rfl))) (Ya := Hook.val (kHook Mine.kf [2, 3, 22, 23, 24, 25, 35, 36, 37, 47, 48, 49, 59, 60, 61] (fun _ => by kernel_rfl))) (YP := Hook.says (kHook Mine.kf [2, 3, 22, 23, 24, 25, 35, 36, 37, 47, 48, 49, 59, 60, 61] (fun _ => by kernel_rfl))) (N := 3980) (fun w => by kernel_rfl) (Hook.of _) (Hook.keeps _) (fun s e => xl_of s (Bool.and_eq_true_iff.mp e).1) XL.keeps (by rfl) (by rfl) (by rfl) (fun s e => recFacts_of (Bool.and_eq_true_iff.mp e).2) (by rfl) (by first | assumption | decide +kernel) (by decide +kernel) ⟨rfl, rfl, rfl, rfl, rfl, by decide +kernel⟩ ?hw ?hc
  (case hw => w_witness2)
  intro w s₀ s₁ mg mb G Y fa o pm cd doc dV kV ho hd hcd hD hmg hg args vals as hpre hlay hrd hwl hlo
  have KX := kIn_of Y
  refine Ground.open G ?_
  intro T B D TE TW
  wrow_args hpre hlay hrd hwl hlo
  rename_i is hs1 hs2 hs3 hs4 hs5 as1 as2 a vs as3 hl ra w1 r0 hi hr hc1 hc2
  have C : ∀ prog : Program, Mine.Cx (Mine.Bs.ofTop T prog w) := fun _ => {
      quiet := rfl
      kin := KX
      o_SomeError := Mine.Own.ofTop T _ w (by decide +kernel)
      o_NoValue := Mine.Own.ofTop T _ w (by decide +kernel)
      o_NotPlain := Mine.Own.ofTop T _ w (by decide +kernel)
      o_NoNote := Mine.Own.ofTop T _ w (by decide +kernel)
      f_sum_words := Mine.FnAt.ofTop T _ w (Mine.recOf Mine.pw 11) (i := 0) (by kernel_rfl) (by kernel_rfl) rfl rfl (fun pm code doc vs hv => by obtain ⟨a, rfl⟩ := Mine.len1 hv; rfl) rfl rfl (by decide +kernel)
      f_words_of := Mine.FnAt.ofTop T _ w (Mine.recOf Mine.pw 12) (i := 1) (by kernel_rfl) (by kernel_rfl) rfl rfl (fun pm code doc vs hv => by obtain ⟨a, rfl⟩ := Mine.len1 hv; rfl) rfl rfl (by decide +kernel)
      f_written := Mine.FnAt.ofTop T _ w (Mine.recOf Mine.pw 13) (i := 2) (by kernel_rfl) (by kernel_rfl) rfl rfl (fun pm code doc vs hv => by obtain ⟨a, rfl⟩ := Mine.len1 hv; rfl) rfl rfl (by decide +kernel)
      f_word_at := Mine.FnAt.ofTop T _ w (Mine.recOf Mine.pw 14) (i := 3) (by kernel_rfl) (by kernel_rfl) rfl rfl (fun pm code doc vs hv => by obtain ⟨a, b, rfl⟩ := Mine.len2 hv; rfl) rfl rfl (by decide +kernel)
      f_number_at := Mine.FnAt.ofTop T _ w (Mine.recOf Mine.pw 15) (i := 4) (by kernel_rfl) (by kernel_rfl) rfl rfl (fun pm code doc vs hv => by obtain ⟨a, b, rfl⟩ := Mine.len2 hv; rfl) rfl rfl (by decide +kernel)
      f_name_at := Mine.FnAt.ofTop T _ w (Mine.recOf Mine.pw 16) (i := 5) (by kernel_rfl) (by kernel_rfl) rfl rfl (fun pm code doc vs hv => by obtain ⟨a, b, rfl⟩ := Mine.len2 hv; rfl) rfl rfl (by decide +kernel)
      f_sum_at := Mine.FnAt.ofTop T _ w (Mine.recOf Mine.pw 17) (i := 6) (by kernel_rfl) (by kernel_rfl) rfl rfl (fun pm code doc vs hv => by obtain ⟨a, b, rfl⟩ := Mine.len2 hv; rfl) rfl rfl (by decide +kernel)
      f_parts_at := Mine.FnAt.ofTop T _ w (Mine.recOf Mine.pw 18) (i := 7) (by kernel_rfl) (by kernel_rfl) rfl rfl (fun pm code doc vs hv => by obtain ⟨a, b, c, rfl⟩ := Mine.len3 hv; rfl) rfl rfl (by decide +kernel)
      f_statement_at := Mine.FnAt.ofTop T _ w (Mine.recOf Mine.pw 19) (i := 8) (by kernel_rfl) (by kernel_rfl) rfl rfl (fun pm code doc vs hv => by obtain ⟨a, b, c, rfl⟩ := Mine.len3 hv; rfl) rfl rfl (by decide +kernel)
      f_read := Mine.FnAt.ofTop T _ w (Mine.recOf Mine.pw 20) (i := 9) (by kernel_rfl) (by kernel_rfl) rfl rfl (fun pm code doc vs hv => by obtain ⟨a, rfl⟩ := Mine.len1 hv; rfl) rfl rfl (by decide +kernel)
      f_cell_at := Mine.FnAt.ofTop T _ w (Mine.recOf Mine.pw 22) (i := 10) (by kernel_rfl) (by kernel_rfl) rfl rfl (fun pm code doc vs hv => by obtain ⟨a, b, rfl⟩ := Mine.len2 hv; rfl) rfl rfl (by decide +kernel)
      f_whole := Mine.FnAt.ofTop T _ w (Mine.recOf Mine.pw 23) (i := 11) (by kernel_rfl) (by kernel_rfl) rfl rfl (fun pm code doc vs hv => by obtain ⟨a, rfl⟩ := Mine.len1 hv; rfl) rfl rfl (by decide +kernel)
      f_names_by := Mine.FnAt.ofTop T _ w (Mine.recOf Mine.pw 24) (i := 12) (by kernel_rfl) (by kernel_rfl) rfl rfl (fun pm code doc vs hv => by obtain ⟨a, rfl⟩ := Mine.len1 hv; rfl) rfl rfl (by decide +kernel)
      f_sum_by := Mine.FnAt.ofTop T _ w (Mine.recOf Mine.pw 25) (i := 13) (by kernel_rfl) (by kernel_rfl) rfl rfl (fun pm code doc vs hv => by obtain ⟨a, b, c, rfl⟩ := Mine.len3 hv; rfl) rfl rfl (by decide +kernel)
      f_end_by := Mine.FnAt.ofTop T _ w (Mine.recOf Mine.pw 26) (i := 14) (by kernel_rfl) (by kernel_rfl) rfl rfl (fun pm code doc vs hv => by obtain ⟨a, b, c, d, rfl⟩ := Mine.len4 hv; rfl) rfl rfl (by decide +kernel)
      f_plain_by := Mine.FnAt.ofTop T _ w (Mine.recOf Mine.pw 27) (i := 15) (by kernel_rfl) (by kernel_rfl) rfl rfl (fun pm code doc vs hv => by obtain ⟨a, b, c, d, e, f, rfl⟩ := Mine.len6 hv; rfl) rfl rfl (by decide +kernel)
      f_word_of := Mine.FnAt.ofTop T _ w (Mine.recOf Mine.pw 28) (i := 16) (by kernel_rfl) (by kernel_rfl) rfl rfl (fun pm code doc vs hv => by obtain ⟨a, rfl⟩ := Mine.len1 hv; rfl) rfl rfl (by decide +kernel)
      f_big_by := Mine.FnAt.ofTop T _ w (Mine.recOf Mine.pw 29) (i := 17) (by kernel_rfl) (by kernel_rfl) rfl rfl (fun pm code doc vs hv => by obtain ⟨a, rfl⟩ := Mine.len1 hv; rfl) rfl rfl (by decide +kernel)
      f_alike := Mine.FnAt.ofTop T _ w (Mine.recOf Mine.pw 30) (i := 18) (by kernel_rfl) (by kernel_rfl) rfl rfl (fun pm code doc vs hv => by obtain ⟨a, b, rfl⟩ := Mine.len2 hv; rfl) rfl rfl (by decide +kernel)
      f_bound_by := Mine.FnAt.ofTop T _ w (Mine.recOf Mine.pw 31) (i := 19) (by kernel_rfl) (by kernel_rfl) rfl rfl (fun pm code doc vs hv => by obtain ⟨a, b, c, rfl⟩ := Mine.len3 hv; rfl) rfl rfl (by decide +kernel)
      f_lsum_words := Mine.FnAt.ofTop T _ w (Mine.recOf Mine.pw 32) (i := 20) (by kernel_rfl) (by kernel_rfl) rfl rfl (fun pm code doc vs hv => by obtain ⟨a, rfl⟩ := Mine.len1 hv; rfl) rfl rfl (by decide +kernel)
      f_words := Mine.FnAt.ofTop T _ w (Mine.recOf Mine.pw 33) (i := 21) (by kernel_rfl) (by kernel_rfl) rfl rfl (fun pm code doc vs hv => by obtain ⟨a, rfl⟩ := Mine.len1 hv; rfl) rfl rfl (by decide +kernel)
      f_within := Mine.FnAt.ofTop T _ w (Mine.recOf Mine.pw 34) (i := 22) (by kernel_rfl) (by kernel_rfl) rfl rfl (fun pm code doc vs hv => by obtain ⟨a, rfl⟩ := Mine.len1 hv; rfl) rfl rfl (by decide +kernel)
      f_number := Mine.FnAt.ofTop T _ w (Mine.recOf Mine.pw 35) (i := 23) (by kernel_rfl) (by kernel_rfl) rfl rfl (fun pm code doc vs hv => by obtain ⟨a, rfl⟩ := Mine.len1 hv; rfl) rfl rfl (by decide +kernel)
      f_is_name := Mine.FnAt.ofTop T _ w (Mine.recOf Mine.pw 36) (i := 24) (by kernel_rfl) (by kernel_rfl) rfl rfl (fun pm code doc vs hv => by obtain ⟨a, rfl⟩ := Mine.len1 hv; rfl) rfl rfl (by decide +kernel)
      f_sum_along := Mine.FnAt.ofTop T _ w (Mine.recOf Mine.pw 37) (i := 25) (by kernel_rfl) (by kernel_rfl) rfl rfl (fun pm code doc vs hv => by obtain ⟨a, rfl⟩ := Mine.len1 hv; rfl) rfl rfl (by decide +kernel)
      f_parts_along := Mine.FnAt.ofTop T _ w (Mine.recOf Mine.pw 38) (i := 26) (by kernel_rfl) (by kernel_rfl) rfl rfl (fun pm code doc vs hv => by obtain ⟨a, b, rfl⟩ := Mine.len2 hv; rfl) rfl rfl (by decide +kernel)
      f_along := Mine.FnAt.ofTop T _ w (Mine.recOf Mine.pw 39) (i := 27) (by kernel_rfl) (by kernel_rfl) rfl rfl (fun pm code doc vs hv => by obtain ⟨a, b, rfl⟩ := Mine.len2 hv; rfl) rfl rfl (by decide +kernel)
      f_changed := Mine.FnAt.ofTop T _ w (Mine.recOf Mine.pw 40) (i := 28) (by kernel_rfl) (by kernel_rfl) rfl rfl (fun pm code doc vs hv => by obtain ⟨a, b, rfl⟩ := Mine.len2 hv; rfl) rfl rfl (by decide +kernel)
      f_lread := Mine.FnAt.ofTop T _ w (Mine.recOf Mine.pw 41) (i := 29) (by kernel_rfl) (by kernel_rfl) rfl rfl (fun pm code doc vs hv => by obtain ⟨a, rfl⟩ := Mine.len1 hv; rfl) rfl rfl (by decide +kernel)
      f_is_due := Mine.FnAt.ofTop T _ w (Mine.recOf Mine.pw 42) (i := 30) (by kernel_rfl) (by kernel_rfl) rfl rfl (fun pm code doc vs hv => by obtain ⟨a, rfl⟩ := Mine.len1 hv; rfl) rfl rfl (by decide +kernel)
      f_law := Mine.FnAt.ofTop T _ w (Mine.recOf Mine.pw 43) (i := 31) (by kernel_rfl) (by kernel_rfl) rfl rfl (fun pm code doc vs hv => by obtain ⟨a, rfl⟩ := Mine.len1 hv; rfl) rfl rfl (by decide +kernel)
      b_ValueError := T.free _ (by decide +kernel) (by decide +kernel) (by decide +kernel) (by decide +kernel) (by decide +kernel)
      b_bool := T.free _ (by decide +kernel) (by decide +kernel) (by decide +kernel) (by decide +kernel) (by decide +kernel)
      b_int := T.free _ (by decide +kernel) (by decide +kernel) (by decide +kernel) (by decide +kernel) (by decide +kernel)
      b_isinstance := T.free _ (by decide +kernel) (by decide +kernel) (by decide +kernel) (by decide +kernel) (by decide +kernel)
      b_len := T.free _ (by decide +kernel) (by decide +kernel) (by decide +kernel) (by decide +kernel) (by decide +kernel)
      b_list := T.free _ (by decide +kernel) (by decide +kernel) (by decide +kernel) (by decide +kernel) (by decide +kernel)
      b_max := T.free _ (by decide +kernel) (by decide +kernel) (by decide +kernel) (by decide +kernel) (by decide +kernel)
      b_range := T.free _ (by decide +kernel) (by decide +kernel) (by decide +kernel) (by decide +kernel) (by decide +kernel)
      b_sorted := T.free _ (by decide +kernel) (by decide +kernel) (by decide +kernel) (by decide +kernel) (by decide +kernel)
      b_str := T.free _ (by decide +kernel) (by decide +kernel) (by decide +kernel) (by decide +kernel) (by decide +kernel)
      b_tuple := T.free _ (by decide +kernel) (by decide +kernel) (by decide +kernel) (by decide +kernel) (by decide +kernel)
  }
  refine Mine.ends T 300 (by decide) (Mine.law_spec (C _) 0 (by omega)) hmg (Mine.script w1 ⟨_, rfl⟩ hl hi) hg ?_ ?_
  · exact Mine.post_ok _ _
  · intro _; rfl
