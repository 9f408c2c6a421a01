import PyProof.Rows.All
import HandS.ForMost
import HandS.Deep
import KE.KDictKeyed
import HandS.Flow
import HandS.Exc
import HandS.WordsExc
import HandS.TupAny
import HandS.TupLe
import HandS.Text
import HandS.RaiseMore
import HandS.Wide
import KE.KTupSum
import HandS.Replace
import HandS.Comp
import HandS.Iter
import HandS.Style
import PyProof.Rows.StrStep
import KE.GoesMore
import HandS.Defaults
import HandS.Head0
import HandS.Head1
import HandS.Head2
import HandS.HeadEnd
import HandS.HeadHook1
import HandS.HeadHook2
import PyProof.Rows.RegReprOcc
import PyProof.Rows.StrRev
import PySem.Challenge.RW_matestold_k77_whole_counts_of_first_rows
set_option Elab.async false
set_option linter.all false
set_option maxRecDepth 100000
set_option maxHeartbeats 4000000
section
set_option autoImplicit false
/-! THE TREE LAYER, part A: values as trees, slots, the relation between an environment of trees and a def's frame. -/
namespace T3
open PySem PySem.Spec PyProof.Rows L2

abbrev D := PyData

/-- the written part -/
structure Md where
  P : Program
  w : World
  K : PySem.W.Frag

/-! ### keys -/
mutual
def keyOf : D → Option NestedKey
  | .none => some .none
  | .bool b => some (.num (if b = true then 1 else 0))
  | .int i => some (.num i)
  | .str x => some (.text x)
  | .tuple ds => match keysOf ds with
    | some ks => some (.tup ks)
    | none => none
  | .list _ => none
  | .dict _ => none
def keysOf : List D → Option (List NestedKey)
  | [] => some []
  | d :: ds => match keyOf d, keysOf ds with
    | some k, some ks => some (k :: ks)
    | _, _ => none
end

/-- an entry of a dict: what its key is, the key's value, the value -/
structure DE where
  nk : NestedKey
  k : V
  v : V

def isTup : NestedKey → Bool
  | .tup _ => true
  | _ => false

/-- a dict's object, of the entries es -/
def DProp (w : World) (a : Addr) (es : List DE) (o : Obj) : Prop :=
  (a == sysModules) = false ∧ es.length ≤ sizeLine ∧ (es.map (·.nk)).Nodup ∧
    ∃ ees ep, o.ExactDict ∧ o.data = .dict ees ep ∧ Paired (fun (e : DE) (x : DictEntry) => x.hash = e.nk.hash w ∧ RelV e.k x.key ∧ RelV e.v x.val) es ees.toList
/-- the object at a is just o -/
def dO (a : Addr) (o : Obj) : HO := .ext fun h => h.get? a = some o

/-! ### a frozen tree -/
mutual
inductive Fz (m : Md) (F : Hp) : V → D → Prop
  | non : Fz m F .non .none
  | bl (b : Bool) : Fz m F (.bl b) (.bool b)
  | int (i : Int) : Fz m F (.int i) (.int i)
  | str (x : Str) : Fz m F (.str x) (.str x)
  | lst {a : Addr} {xs : List V} {ds : List D} : SqL m.K F a xs → FzA m F xs ds → Fz m F (.ref a) (.list ds)
  | tup {a : Addr} {xs : List V} {ds : List D} : SqT m.K F a xs → FzA m F xs ds → Fz m F (.ref a) (.tuple ds)
  | dct {a : Addr} {o : Obj} {es : List DE} {kvs : List (D × D)} : F a = some (dO a o) → DProp m.w a es o → FzE m F es kvs → Fz m F (.ref a) (.dict kvs)
inductive FzA (m : Md) (F : Hp) : List V → List D → Prop
  | nil : FzA m F [] []
  | cons {v : V} {vs : List V} {d : D} {ds : List D} : Fz m F v d → FzA m F vs ds → FzA m F (v :: vs) (d :: ds)
inductive FzE (m : Md) (F : Hp) : List DE → List (D × D) → Prop
  | nil : FzE m F [] []
  | cons {e : DE} {es : List DE} {kd vd : D} {kvs : List (D × D)} : keyOf kd = some e.nk → Fz m F e.k kd → Fz m F e.v vd → FzE m F es kvs → FzE m F (e :: es) ((kd, vd) :: kvs)
end

abbrev Sub (F G : Hp) : Prop := Same F G

theorem sqL_mono {K : PySem.W.Frag} {F G : Hp} {a : Addr} {xs : List V} (s : Sub F G) (h : SqL K F a xs) : SqL K G a xs := Same.seq s h
theorem sqT_mono {K : PySem.W.Frag} {F G : Hp} {a : Addr} {xs : List V} (s : Sub F G) (h : SqT K F a xs) : SqT K G a xs := by
  rcases h with (h | ⟨o, h⟩) | h
  · exact .inl (.inl (s _ _ h))
  · exact .inl (.inr ⟨o, s _ _ h⟩)
  · exact .inr h
mutual
theorem Fz.mono {m : Md} {F G : Hp} (s : Sub F G) : ∀ {v : V} {d : D}, Fz m F v d → Fz m G v d
  | _, _, .non => .non
  | _, _, .bl b => .bl b
  | _, _, .int i => .int i
  | _, _, .str x => .str x
  | _, _, .lst h a => .lst (sqL_mono s h) (FzA.mono s a)
  | _, _, .tup h a => .tup (sqT_mono s h) (FzA.mono s a)
  | _, _, .dct h p a => .dct (s _ _ h) p (FzE.mono s a)
theorem FzA.mono {m : Md} {F G : Hp} (s : Sub F G) : ∀ {v : List V} {d : List D}, FzA m F v d → FzA m G v d
  | _, _, .nil => .nil
  | _, _, .cons h t => .cons (Fz.mono s h) (FzA.mono s t)
theorem FzE.mono {m : Md} {F G : Hp} (s : Sub F G) : ∀ {v : List DE} {d : List (D × D)}, FzE m F v d → FzE m G v d
  | _, _, .nil => .nil
  | _, _, .cons h1 h2 h3 t => .cons h1 (Fz.mono s h2) (Fz.mono s h3) (FzE.mono s t)
end
theorem FzA.length {m : Md} {F : Hp} : ∀ {vs : List V} {ds : List D}, FzA m F vs ds → vs.length = ds.length
  | _, _, .nil => rfl
  | _, _, .cons _ t => by rw [List.length_cons, List.length_cons, FzA.length t]
theorem FzE.length {m : Md} {F : Hp} : ∀ {vs : List DE} {ds : List (D × D)}, FzE m F vs ds → vs.length = ds.length
  | _, _, .nil => rfl
  | _, _, .cons _ _ _ t => by rw [List.length_cons, List.length_cons, FzE.length t]
theorem FzA.append {m : Md} {F : Hp} : ∀ {vs ws : List V} {ds es : List D}, FzA m F vs ds → FzA m F ws es → FzA m F (vs ++ ws) (ds ++ es)
  | _, _, _, _, .nil, h => h
  | _, _, _, _, .cons r t, h => .cons r (FzA.append t h)
theorem FzA.get {m : Md} {F : Hp} : ∀ {vs : List V} {ds : List D} {i : Nat} {d : D}, FzA m F vs ds → ds[i]? = some d → ∃ v, vs[i]? = some v ∧ Fz m F v d
  | _, _, _, _, .nil, e => by simp at e
  | _, _, 0, _, .cons r _, e => by simp at e; subst e; exact ⟨_, rfl, r⟩
  | _, _, i + 1, _, .cons _ t, e => by
    obtain ⟨v, h1, h2⟩ := FzA.get (i := i) t (by simpa using e)
    exact ⟨v, by simpa using h1, h2⟩
theorem FzA.getV {m : Md} {F : Hp} : ∀ {vs : List V} {ds : List D} {i : Nat} {v : V}, FzA m F vs ds → vs[i]? = some v → ∃ d, ds[i]? = some d ∧ Fz m F v d
  | _, _, _, _, .nil, e => by simp at e
  | _, _, 0, _, .cons r _, e => by simp at e; subst e; exact ⟨_, rfl, r⟩
  | _, _, i + 1, _, .cons _ t, e => by
    obtain ⟨v, h1, h2⟩ := FzA.getV (i := i) t (by simpa using e)
    exact ⟨v, by simpa using h1, h2⟩
theorem FzA.take {m : Md} {F : Hp} : ∀ {vs : List V} {ds : List D} (n : Nat), FzA m F vs ds → FzA m F (vs.take n) (ds.take n)
  | _, _, 0, _ => by simp; exact .nil
  | _, _, _ + 1, .nil => by simp; exact .nil
  | _, _, n + 1, .cons r t => by simp; exact .cons r (FzA.take n t)
theorem FzA.drop {m : Md} {F : Hp} : ∀ {vs : List V} {ds : List D} (n : Nat), FzA m F vs ds → FzA m F (vs.drop n) (ds.drop n)
  | _, _, 0, r => r
  | _, _, _ + 1, .nil => by simp; exact .nil
  | _, _, n + 1, .cons _ t => by simp; exact FzA.drop n t
theorem FzA.set {m : Md} {F : Hp} {v : V} {d : D} (r : Fz m F v d) : ∀ {vs : List V} {ds : List D} (i : Nat), FzA m F vs ds → FzA m F (vs.set i v) (ds.set i d)
  | _, _, _, .nil => by simp; exact .nil
  | _, _, 0, .cons _ t => .cons r t
  | _, _, i + 1, .cons q t => .cons q (FzA.set r i t)

/-! ### slots -/
inductive Slot where
  | non
  | fz (d : D)
  | ow (d : D)
  | rl (ns : List Int)
abbrev En := List Slot
/-- what an expression gives: a frozen tree; what the i-th slot holds; a new list or dict that nobody else holds -/
inductive Rv where
  | fz (d : D)
  | sl (i : Nat)
  | ow (d : D)
inductive R (α : Type) where
  | ok (a : α) (e : En)
  | exc (n : Str) (i : Int) (e : En)
  | bad
inductive O where
  | nx (e : En)
  | rt (r : Rv) (e : En)
  | bk (e : En)
  | ct (e : En)
  | exc (n : Str) (i : Int) (e : En)
  | bad
abbrev EX := En → R Rv
abbrev SX := En → O

/-- of an activation: the heap and the frozen heap at its entry; the parameters that it may change, and where they stand; what else must stay -/
structure Cn where
  H0 : Hp
  F0 : Hp
  M : List (Nat × Addr)
  pins : List (Addr × HO)

/-- an owned list or dict at r -/
def OwnAt (m : Md) (F H : Hp) (r : Addr) : D → Prop
  | .list ds => ∃ xs, H r = some (.lst xs) ∧ FzA m F xs ds
  | .dict kvs => ∃ o es, H r = some (dO r o) ∧ DProp m.w r es o ∧ FzE m F es kvs
  | _ => False
structure OwnR (m : Md) (c : Cn) (F H : Hp) (r : Addr) (d : D) : Prop where
  nf : F r = none
  nw : c.H0 r = none ∨ r ∈ c.M.map (·.2)
  at_ : OwnAt m F H r d
theorem OwnAt.has {m : Md} {F H : Hp} {r : Addr} : ∀ {d : D}, OwnAt m F H r d → ∃ o, H r = some o
  | .list _, ⟨_, h, _⟩ => ⟨_, h⟩
  | .dict _, ⟨_, _, h, _⟩ => ⟨_, h⟩
theorem OwnAt.mono {m : Md} {F G H H' : Hp} {r : Addr} (s : Sub F G) (k : ∀ o, H r = some o → H' r = some o) : ∀ {d : D}, OwnAt m F H r d → OwnAt m G H' r d
  | .list _, ⟨_, h, t⟩ => ⟨_, k _ h, t.mono s⟩
  | .dict _, ⟨_, _, h, p, t⟩ => ⟨_, _, k _ h, p, t.mono s⟩
/-- a slot's value -/
def SlotR (m : Md) (c : Cn) (F H : Hp) (ov : Option V) : Slot → Prop
  | .non => True
  | .fz d => ∃ v, ov = some v ∧ Fz m F v d
  | .ow d => ∃ r, ov = some (.ref r) ∧ OwnR m c F H r d
  | .rl ns => ∃ a, ov = some (.ref a) ∧ SqL m.K F a (ns.map V.int)

structure Rl (m : Md) (c : Cn) (F : Hp) (σ : L2.St) (H : Hp) (env : En) : Prop where
  sub : Sub F H
  ext : Sub c.F0 F
  new : ∀ a o, F a = some o → c.F0 a = some o ∨ c.H0 a = none
  keep : ∀ a o, c.H0 a = some o → a ∉ c.M.map (·.2) → H a = some o
  len : env.length = σ.length
  slot : ∀ (i : Nat) s, env[i]? = some s → ∃ ov, σ[i]? = some ov ∧ SlotR m c F H ov s
  dis : ∀ (i j : Nat) (d e : D) (r : Addr), env[i]? = some (.ow d) → env[j]? = some (.ow e) → σ[i]? = some (some (.ref r)) → σ[j]? = some (some (.ref r)) → i = j
  mrt : ∀ p ∈ c.M, σ[p.1]? = some (some (.ref p.2)) ∧ ∃ d, env[p.1]? = some (.ow d)
  pin : ∀ q ∈ c.pins, H q.1 = some q.2 ∧ F q.1 = none ∧ ∀ (i : Nat) (d : D), env[i]? = some (.ow d) → σ[i]? ≠ some (some (.ref q.1))

/-- no slot owns r, and it is no pin -/
def Free (c : Cn) (σ : L2.St) (env : En) (r : Addr) : Prop := (∀ (i : Nat) (d : D), env[i]? = some (.ow d) → σ[i]? ≠ some (some (.ref r))) ∧ ∀ q ∈ c.pins, q.1 ≠ r
def RvR (m : Md) (c : Cn) (F : Hp) (σ : L2.St) (H : Hp) (env : En) (v : V) : Rv → Prop
  | .fz d => Fz m F v d
  | .sl i => σ[i]? = some (some v) ∧ ∃ d, env[i]? = some (.ow d)
  | .ow d => ∃ r, v = .ref r ∧ OwnR m c F H r d ∧ Free c σ env r

/-- what may be read of a value, its parts frozen -/
def Tp (m : Md) (F H : Hp) (v : V) : D → Prop
  | .list ds => ∃ a xs, v = .ref a ∧ SqL m.K H a xs ∧ FzA m F xs ds
  | .dict kvs => ∃ a o es, v = .ref a ∧ H a = some (dO a o) ∧ DProp m.w a es o ∧ FzE m F es kvs
  | d => Fz m F v d
theorem Tp.of {m : Md} {F H : Hp} {v : V} (s : Sub F H) : ∀ {d : D}, Fz m F v d → Tp m F H v d
  | .none, h => h
  | .bool _, h => h
  | .int _, h => h
  | .str _, h => h
  | .tuple _, h => h
  | .list _, .lst h a => ⟨_, _, rfl, sqL_mono s h, a⟩
  | .dict _, .dct h p a => ⟨_, _, _, rfl, s _ _ h, p, a⟩
theorem Tp.own {m : Md} {F H : Hp} {r : Addr} : ∀ {d : D}, OwnAt m F H r d → Tp m F H (.ref r) d
  | .list _, ⟨_, h, t⟩ => ⟨_, _, rfl, SqL.of h, t⟩
  | .dict _, ⟨_, _, h, p, t⟩ => ⟨_, _, _, rfl, h, p, t⟩
theorem Tp.fz {m : Md} {F H : Hp} {v : V} (s : Sub F H) : ∀ {d : D}, Tp m F H v d → Fz m H v d
  | .none, h => Fz.mono s h
  | .bool _, h => Fz.mono s h
  | .int _, h => Fz.mono s h
  | .str _, h => Fz.mono s h
  | .tuple _, h => Fz.mono s h
  | .list _, ⟨_, _, e, h, a⟩ => by subst e; exact .lst h (a.mono s)
  | .dict _, ⟨_, _, _, e, h, p, a⟩ => by subst e; exact .dct h p (a.mono s)

section
variable {m : Md} {c : Cn} {F F' H H' : Hp} {σ : L2.St} {env : En}

theorem Rl.free_of_none (R : Rl m c F σ H env) {p : Addr} (h : H p = none) : Free c σ env p := by
  refine ⟨fun i d e q => ?_, fun q hq e => ?_⟩
  · obtain ⟨ov, h1, r, h2, h3⟩ := R.slot i _ e
    rw [q] at h1
    have h1 := (Option.some.inj h1).trans h2
    cases h1
    obtain ⟨o, h4⟩ := h3.at_.has
    rw [h] at h4; cases h4
  · rw [← e, (R.pin q hq).1] at h; cases h
theorem Rl.H0none (R : Rl m c F σ H env) {p : Addr} (h : H p = none) : c.H0 p = none := by
  cases q : c.H0 p with
  | none => rfl
  | some o =>
    by_cases hm : p ∈ c.M.map (·.2)
    · obtain ⟨pr, h1, h2⟩ := List.mem_map.mp hm
      obtain ⟨h3, d, h4⟩ := R.mrt pr h1
      rw [h2] at h3
      exact absurd h3 ((R.free_of_none h).1 _ _ h4)
    · rw [R.keep p o q hm] at h; cases h
theorem Rl.Fnone (R : Rl m c F σ H env) {p : Addr} (h : H p = none) : F p = none := R.sub.free h
theorem Same.fresh {H : Hp} {p : Addr} {o : HO} (h : H p = none) : Same H (upd H p o) := fun b u e => by
  rw [upd_ne (ne_of_none e h)]; exact e
/-- a new object, not yet frozen -/
theorem Rl.laid (R : Rl m c F σ H env) {p : Addr} {o : HO} (h : H p = none) : Rl m c F σ (upd H p o) env where
  sub := fun a u e => Same.fresh h _ _ (R.sub a u e)
  ext := R.ext
  new := R.new
  keep := fun a u e hm => Same.fresh h _ _ (R.keep a u e hm)
  len := R.len
  slot := fun i s e => by
    obtain ⟨ov, h1, h2⟩ := R.slot i s e
    refine ⟨ov, h1, ?_⟩
    cases s with
    | non => trivial
    | fz d => exact h2
    | rl ns => exact h2
    | ow d =>
      obtain ⟨r, h3, h4⟩ := h2
      exact ⟨r, h3, h4.nf, h4.nw, h4.at_.mono (Same.refl _) fun o e => Same.fresh h _ _ e⟩
  dis := R.dis
  mrt := R.mrt
  pin := fun q hq => ⟨Same.fresh h _ _ (R.pin q hq).1, (R.pin q hq).2⟩
/-- .. owned -/
theorem Rl.laid_own (R : Rl m c F σ H env) {p : Addr} {o : HO} {d : D} (h : H p = none) (k : OwnAt m F (upd H p o) p d) : RvR m c F σ (upd H p o) env (.ref p) (.ow d) :=
  ⟨p, rfl, ⟨R.Fnone h, .inl (R.H0none h), k⟩, R.free_of_none h⟩
/-- the frozen heap grows by an object that is there, which no slot owns and no pin holds -/
theorem Rl.freeze (R : Rl m c F σ H env) {p : Addr} {o : HO} (h : H p = some o) (h0 : c.H0 p = none) (hf : Free c σ env p) (nf : F p = none) : Rl m c (upd F p o) σ H env where
  sub := fun a u e => by
    by_cases hp : a = p
    · subst hp; rw [upd_same] at e; cases e; exact h
    · rw [upd_ne hp] at e; exact R.sub a u e
  ext := fun a u e => Same.fresh nf _ _ (R.ext a u e)
  new := fun a u e => by
    by_cases hp : a = p
    · subst hp; exact .inr h0
    · rw [upd_ne hp] at e; exact R.new a u e
  keep := R.keep
  len := R.len
  slot := fun i s e => by
    obtain ⟨ov, h1, h2⟩ := R.slot i s e
    refine ⟨ov, h1, ?_⟩
    cases s with
    | non => trivial
    | fz d => obtain ⟨v, h3, h4⟩ := h2; exact ⟨v, h3, h4.mono (Same.fresh nf)⟩
    | rl ns => obtain ⟨v, h3, h4⟩ := h2; exact ⟨v, h3, sqL_mono (Same.fresh nf) h4⟩
    | ow d =>
      obtain ⟨r, h3, h4⟩ := h2
      have hr : r ≠ p := fun e' => by subst e'; exact hf.1 i d e (by rw [h1, h3])
      exact ⟨r, h3, by rw [upd_ne hr]; exact h4.nf, h4.nw, h4.at_.mono (Same.fresh nf) fun _ e => e⟩
  dis := R.dis
  mrt := R.mrt
  pin := fun q hq => ⟨(R.pin q hq).1, by rw [upd_ne (hf.2 q hq)]; exact (R.pin q hq).2.1, (R.pin q hq).2.2⟩
theorem OwnAt.frz {p : Addr} {o : HO} : ∀ {d : D}, OwnAt m F H p d → H p = some o → F p = none → Fz m (upd F p o) (.ref p) d
  | .list _, ⟨_, h, t⟩, e, nf => by rw [h] at e; cases e; exact .lst (SqL.of upd_same) (t.mono (Same.fresh nf))
  | .dict _, ⟨_, _, h, p, t⟩, e, nf => by rw [h] at e; cases e; exact .dct upd_same p (t.mono (Same.fresh nf))
/-- a new own one is frozen -/
theorem Rl.freeze_ow (R : Rl m c F σ H env) {v : V} {d : D} (h : RvR m c F σ H env v (.ow d)) (hM : ∀ r, v = .ref r → r ∉ c.M.map (·.2)) : ∃ F', Sub F F' ∧ Rl m c F' σ H env ∧ Fz m F' v d := by
  obtain ⟨r, e, ow, hf⟩ := h
  obtain ⟨o, ho⟩ := ow.at_.has
  subst e
  exact ⟨upd F r o, Same.fresh ow.nf, R.freeze ho (ow.nw.resolve_right (hM r rfl)) hf ow.nf, ow.at_.frz ho ow.nf⟩
theorem Rl.ow_notM (R : Rl m c F σ H env) {r : Addr} (hf : Free c σ env r) : r ∉ c.M.map (·.2) := fun hm => by
  obtain ⟨pr, h1, h2⟩ := List.mem_map.mp hm
  obtain ⟨h3, d, h4⟩ := R.mrt pr h1
  rw [h2] at h3
  exact hf.1 _ _ h4 h3
theorem Rl.freeze_new (R : Rl m c F σ H env) {v : V} {d : D} (h : RvR m c F σ H env v (.ow d)) : ∃ F', Sub F F' ∧ Rl m c F' σ H env ∧ Fz m F' v d :=
  R.freeze_ow h fun r e hm => by
    obtain ⟨r', e', _, hf⟩ := h
    rw [e] at e'; cases e'
    exact R.ow_notM hf hm
/-- what a slot holds, read -/
theorem Rl.slot_tp (R : Rl m c F σ H env) {i : Nat} {v : V} (h : σ[i]? = some (some v)) : (∀ {d}, env[i]? = some (.ow d) → Tp m F H v d) ∧ (∀ {d}, env[i]? = some (.fz d) → Fz m F v d) := by
  refine ⟨fun {d} e => ?_, fun {d} e => ?_⟩
  · obtain ⟨ov, h1, r, h2, h3⟩ := R.slot i _ e
    rw [h] at h1; cases h1; cases h2
    exact Tp.own h3.at_
  · obtain ⟨ov, h1, v', h2, h3⟩ := R.slot i _ e
    rw [h] at h1; cases h1; cases h2
    exact h3
theorem set_get {α : Type} {l : List α} {i j : Nat} {x y : α} (h : (l.set i x)[j]? = some y) : (j = i ∧ y = x) ∨ (j ≠ i ∧ l[j]? = some y) := by
  by_cases e : i = j
  · subst e
    rw [List.getElem?_set] at h
    simp only [if_pos] at h
    split at h
    · exact .inl ⟨rfl, (Option.some.inj h).symm⟩
    · cases h
  · rw [List.getElem?_set_ne e] at h
    exact .inr ⟨fun q => e q.symm, h⟩
/-- an owned slot gives up its list: frozen -/
theorem Rl.freeze_slot (R : Rl m c F σ H env) {i : Nat} {d : D} (h : env[i]? = some (.ow d)) (hM : ∀ p ∈ c.M, p.1 ≠ i) : ∃ F', Sub F F' ∧ Rl m c F' σ H (env.set i (.fz d)) ∧ ∃ v, σ[i]? = some (some v) ∧ Fz m F' v d := by
  obtain ⟨ov, h1, r, h2, h3⟩ := R.slot i _ h
  subst h2
  obtain ⟨o, ho⟩ := h3.at_.has
  have hrM : r ∉ c.M.map (·.2) := fun hm => by
    obtain ⟨pr, q1, q2⟩ := List.mem_map.mp hm
    obtain ⟨q3, d', q4⟩ := R.mrt pr q1
    rw [q2] at q3
    exact hM pr q1 (R.dis _ _ _ _ r q4 h q3 h1)
  have others : ∀ j e, (env.set i (.fz d))[j]? = some (.ow e) → j ≠ i ∧ env[j]? = some (.ow e) := fun j e q => by
    rcases set_get q with ⟨_, q⟩ | q
    · cases q
    · exact q
  have R1 : Rl m c F σ H (env.set i .non) :=
    { sub := R.sub, ext := R.ext, new := R.new, keep := R.keep, len := by rw [List.length_set]; exact R.len
      slot := fun j s e => by
        rcases set_get e with ⟨rfl, rfl⟩ | ⟨_, e⟩
        · exact ⟨_, h1, trivial⟩
        · exact R.slot j s e
      dis := fun j k d' e' r' e1 e2 e3 e4 => by
        rcases set_get e1 with ⟨_, q⟩ | ⟨_, e1⟩
        · cases q
        · rcases set_get e2 with ⟨_, q⟩ | ⟨_, e2⟩
          · cases q
          · exact R.dis j k d' e' r' e1 e2 e3 e4
      mrt := fun p hp => ⟨(R.mrt p hp).1, by
        obtain ⟨d', q⟩ := (R.mrt p hp).2
        exact ⟨d', by rw [List.getElem?_set_ne (hM p hp).symm]; exact q⟩⟩
      pin := fun q hq => ⟨(R.pin q hq).1, (R.pin q hq).2.1, fun j e' e1 => by
        rcases set_get e1 with ⟨_, q'⟩ | ⟨_, e1⟩
        · cases q'
        · exact (R.pin q hq).2.2 j e' e1⟩ }
  have hf : Free c σ (env.set i .non) r := by
    refine ⟨fun j e' e1 e2 => ?_, fun q hq e => ?_⟩
    · rcases set_get e1 with ⟨_, q⟩ | ⟨hj, e1⟩
      · cases q
      · exact hj (R.dis j i _ _ r e1 h e2 h1)
    · exact (R.pin q hq).2.2 i d h (by rw [h1, e])
  have R2 := R1.freeze ho (h3.nw.resolve_right hrM) hf h3.nf
  refine ⟨upd F r o, Same.fresh h3.nf, ?_, .ref r, h1, h3.at_.frz ho h3.nf⟩
  exact
    { sub := R2.sub, ext := R2.ext, new := R2.new, keep := R2.keep, len := by rw [List.length_set]; exact R.len
      slot := fun j s e => by
        rcases set_get e with ⟨rfl, rfl⟩ | ⟨hj, e⟩
        · exact ⟨_, h1, _, rfl, h3.at_.frz ho h3.nf⟩
        · exact R2.slot j s (by rw [List.getElem?_set_ne (Ne.symm hj)]; exact e)
      dis := fun j k d' e' r' e1 e2 e3 e4 => by
        obtain ⟨_, e1⟩ := others _ _ e1
        obtain ⟨_, e2⟩ := others _ _ e2
        exact R.dis j k d' e' r' e1 e2 e3 e4
      mrt := fun p hp => ⟨(R.mrt p hp).1, by
        obtain ⟨d', q⟩ := (R.mrt p hp).2
        exact ⟨d', by rw [List.getElem?_set_ne (hM p hp).symm]; exact q⟩⟩
      pin := fun q hq => ⟨(R2.pin q hq).1, (R2.pin q hq).2.1, fun j e' e1 => (R.pin q hq).2.2 j e' (others _ _ e1).2⟩ }
end
end T3
end

section
set_option autoImplicit false
/-! THE TREE LAYER, part B: expressions. -/
namespace T3
open PySem PySem.Spec PyProof.Rows L2

abbrev mdOf (X : Cx) : Md := ⟨X.prog, X.w, X.K⟩
/-- what is wanted of an exception (its class's name, its number, the slots, the heap); the parameters that may be changed -/
structure Kx where
  W : Str → Int → L2.St → Hp → Prop
  ms : List Nat

def Rv.get (e : En) : Rv → Option D
  | .fz d => some d
  | .ow d => some d
  | .sl i => match e[i]? with
    | some (.ow d) => some d
    | some (.fz d) => some d
    | _ => none

def postX (m : Md) (k : Kx) (c : Cn) (F : Hp) (σ : L2.St) (Q : VK) : R Rv → Prop
  | .ok r e => ∀ F' H' v, Sub F F' → Rl m c F' σ H' e → RvR m c F' σ H' e v r → Q v H'
  | .exc n i e => ∀ F' H', Sub F F' → Rl m c F' σ H' e → k.W n i σ H'
  | .bad => False
def tX (m : Md) (k : Kx) (f : EX) : TE := fun σ H Q => ∃ c F env, c.M.map (·.1) = k.ms ∧ Rl m c F σ H env ∧ postX m k c F σ Q (f env)
abbrev PX (X : Cx) (k : Kx) (e : Expr) (f : EX) : Prop := PE X e (tX (mdOf X) k f)
theorem imp {X : Cx} {e : Expr} {t t' : TE} (h : PE X e t) (hi : ∀ σ H Q, t' σ H Q → t σ H Q) : PE X e t' := ⟨fun pins s σ H Q I q => h.run pins s σ H Q I (hi σ H Q q)⟩

/-! ### an operand: read, frozen -/
def rd (f : EX) : EX := fun env => match f env with
  | .ok (.ow d) e => .ok (.fz d) e
  | r => r
def fzR (ms : List Nat) : R Rv → R Rv
  | .ok (.ow d) e => .ok (.fz d) e
  | .ok (.sl i) e => match e[i]? with
    | some (.ow d) => if i ∈ ms then .bad else .ok (.fz d) (e.set i (.fz d))
    | _ => .bad
  | r => r
def fz (ms : List Nat) (f : EX) : EX := fun env => fzR ms (f env)
section
variable {m : Md} {k : Kx} {c : Cn} {F : Hp} {σ : L2.St} {Q : VK}
theorem postX.mono {F0 : Hp} {r : R Rv} (s : Sub F0 F) (h : postX m k c F0 σ Q r) : postX m k c F σ Q r := by
  cases r with
  | ok r e => exact fun F' H' v s' R q => h F' H' v (s.trans s') R q
  | exc n i e => exact fun F' H' s' R => h F' H' (s.trans s') R
  | bad => exact h
/-- as read -/
def RvQ (m : Md) (F : Hp) (σ : L2.St) (v : V) : Rv → Prop
  | .fz d => Fz m F v d
  | .sl i => σ[i]? = some (some v)
  | .ow _ => False
theorem RvQ.mono {F G : Hp} {v : V} {r : Rv} (s : Sub F G) (h : RvQ m F σ v r) : RvQ m G σ v r := by
  cases r with
  | fz d => exact Fz.mono s h
  | sl i => exact h
  | ow d => exact h
theorem RvQ.tp {H : Hp} {env : En} {v : V} {r : Rv} {d : D} (R : Rl m c F σ H env) (h : RvQ m F σ v r) (e : r.get env = some d) : Tp m F H v d := by
  cases r with
  | fz d' =>
    have e' : d' = d := Option.some.inj e
    subst e'
    exact Tp.of R.sub h
  | sl i =>
    have q := R.slot_tp h
    dsimp only [Rv.get] at e
    split at e
    · cases e; exact q.1 (by assumption)
    · cases e; exact Tp.of R.sub (q.2 (by assumption))
    · cases e
  | ow d' => exact h.elim
/-- what is wanted of an operand that is read -/
def postR (m : Md) (k : Kx) (c : Cn) (F : Hp) (σ : L2.St) (Q : VK) : R Rv → Prop
  | .ok r e => ∀ F' H' v, Sub F F' → Rl m c F' σ H' e → RvQ m F' σ v r → Q v H'
  | .exc n i e => ∀ F' H', Sub F F' → Rl m c F' σ H' e → k.W n i σ H'
  | .bad => False
theorem post_rd {f : EX} {env : En} (h : postR m k c F σ Q (rd f env)) : postX m k c F σ Q (f env) := by
  unfold rd at h
  cases e : f env with
  | ok r e' =>
    rw [e] at h
    cases r with
    | fz d => exact h
    | sl i => exact fun F' H' v s R q => h F' H' v s R q.1
    | ow d =>
      intro F' H' v s R q
      obtain ⟨F2, s2, R2, z⟩ := R.freeze_new q
      exact h F2 H' v (s.trans s2) R2 z
  | exc n i e' => rw [e] at h; exact h
  | bad => rw [e] at h; exact h
theorem post_fz {f : EX} {env : En} (hm : c.M.map (·.1) = k.ms) (h : postX m k c F σ Q (fz k.ms f env)) : postX m k c F σ Q (f env) := by
  unfold fz fzR at h
  cases e : f env with
  | ok r e' =>
    rw [e] at h
    cases r with
    | fz d => exact h
    | ow d =>
      intro F' H' v s R q
      obtain ⟨F2, s2, R2, z⟩ := R.freeze_new q
      exact h F2 H' v (s.trans s2) R2 z
    | sl i =>
      dsimp only at h
      split at h
      · rename_i d hd
        split at h
        · exact h.elim
        · rename_i hi
          intro F' H' v s R q
          obtain ⟨F2, s2, R2, v', e1, z⟩ := R.freeze_slot hd (fun p hp e2 => hi (by rw [← hm, ← e2]; exact List.mem_map.mpr ⟨p, hp, rfl⟩))
          rw [q.1] at e1; cases e1
          exact h F2 H' v (s.trans s2) R2 z
      · exact h.elim
  | exc n i e' => rw [e] at h; exact h
  | bad => rw [e] at h; exact h
theorem PX.rd {X : Cx} {e : Expr} {f : EX} (h : PX X k e f) : PE X e (fun σ H Q => ∃ c F env, c.M.map (·.1) = k.ms ∧ Rl (mdOf X) c F σ H env ∧ postR (mdOf X) k c F σ Q (T3.rd f env)) :=
  imp h fun _ _ _ ⟨c, F, env, hm, R, q⟩ => ⟨c, F, env, hm, R, post_rd q⟩
theorem PX.fz {X : Cx} {e : Expr} {f : EX} (h : PX X k e f) : PX X k e (fz k.ms f) :=
  imp h fun _ _ _ ⟨c, F, env, hm, R, q⟩ => ⟨c, F, env, hm, R, post_fz hm q⟩
end
/-- an operand that is read -/
def tR (m : Md) (k : Kx) (f : EX) : TE := fun σ H Q => ∃ c F env, c.M.map (·.1) = k.ms ∧ Rl m c F σ H env ∧ postR m k c F σ Q (rd f env)

/-! ### names, constants -/
def vName (i : Nat) : EX := fun env => match env[i]? with
  | some (.fz d) => .ok (.fz d) env
  | some (.ow _) => .ok (.sl i) env
  | _ => .bad
def vC (d : D) : EX := fun env => .ok (.fz d) env
section
variable {X : Cx} {k : Kx} {pos : Pos}
theorem px_name (i : Nat) {x : Str} (hN : X.N[i]? = some x := by rfl) (hv : Vis X.env.scope x := by first | exact Or.inl rfl | exact Or.inr (Or.inl rfl) | exact Or.inr (Or.inr rfl)) (hd : (x == ("__debug__" : Str)) = false := by decide)
    (hcd : (x == ("__classdict__" : Str)) = false := by decide) : PX X k (.Name x pos) (vName i) := by
  refine imp (pe_var hN hv hd hcd) ?_
  rintro σ H Q ⟨c, F, env, hm, R, q⟩
  unfold vName at q
  split at q
  · rename_i d e
    obtain ⟨ov, h1, v, h2, h3⟩ := R.slot i _ e
    subst h2
    exact ⟨v, h1, q F H v (Same.refl _) R h3⟩
  · rename_i d e
    obtain ⟨ov, h1, r, h2, h3⟩ := R.slot i _ e
    subst h2
    exact ⟨.ref r, h1, q F H (.ref r) (Same.refl _) R ⟨h1, d, e⟩⟩
  · exact q.elim
theorem tX_const {m : Md} {v : V} {d : D} (h : ∀ F, Fz m F v d) (σ : L2.St) (H : Hp) (Q : VK) (q : tX m k (vC d) σ H Q) : tC v σ H Q := by
  obtain ⟨c, F, env, hm, R, q⟩ := q
  exact q F H v (Same.refl _) R (h F)
theorem px_int {i j} : PX X k (.Constant (.int i) j pos) (vC (.int i)) := imp pe_int (tX_const fun _ => .int i)
theorem px_bl {b j} : PX X k (.Constant (.bool b) j pos) (vC (.bool b)) := imp pe_bl (tX_const fun _ => .bl b)
theorem px_non {j} : PX X k (.Constant .none j pos) (vC .none) := imp pe_non (tX_const fun _ => .non)
theorem px_str {x j} : PX X k (.Constant (.str x) j pos) (vC (.str x)) := imp pe_str (tX_const fun _ => .str x)
theorem px_glob {x : Str} {v : V} {u : Value} {d : D} (hg : Gl X x) (hm : X.mg x = some u) (r : RelV v u) (h : ∀ F, Fz (mdOf X) F v d) (hd : (x == ("__debug__" : Str)) = false := by decide) : PX X k (.Name x pos) (vC d) :=
  imp (pe_glob hg hm r hd) (tX_const h)
end

/-! ### what an operation gives -/
inductive Out where
  | fz (d : D)
  | nl (ds : List D)
  | nt (ds : List D)
  | nd (kvs : List (D × D))
def Out.rv : Out → Rv
  | .fz d => .fz d
  | .nl ds => .ow (.list ds)
  | .nt ds => .fz (.tuple ds)
  | .nd kvs => .ow (.dict kvs)
def contO (m : Md) (F H : Hp) (Q : VK) : Out → Prop
  | .fz d => ∀ v, Fz m F v d → Q v H
  | .nl ds => ∀ p xs, H p = none → FzA m F xs ds → Q (.ref p) (upd H p (.lst xs))
  | .nt ds => ∀ p xs, H p = none → FzA m F xs ds → Q (.ref p) (upd H p (.tup xs))
  | .nd kvs => ∀ p o es, H p = none → DProp m.w p es o → FzE m F es kvs → Q (.ref p) (upd H p (dO p o))
theorem cont_of {m : Md} {k : Kx} {c : Cn} {F H : Hp} {σ : L2.St} {env : En} {Q : VK} {o : Out} (R : Rl m c F σ H env) (h : postX m k c F σ Q (.ok o.rv env)) : contO m F H Q o := by
  cases o with
  | fz d => exact fun v q => h F H v (Same.refl _) R q
  | nl ds => exact fun p xs hp q => h F _ _ (Same.refl _) (R.laid hp) (R.laid_own hp ⟨xs, upd_same, q⟩)
  | nd kvs => exact fun p o es hp pr q => h F _ _ (Same.refl _) (R.laid hp) (R.laid_own hp ⟨o, es, upd_same, pr, q⟩)
  | nt ds =>
    intro p xs hp q
    have R1 := R.laid (o := .tup xs) hp
    have nf := R.Fnone hp
    have hf := R.free_of_none hp
    exact h (upd F p (.tup xs)) _ _ (Same.fresh nf) (R1.freeze upd_same (R.H0none hp) hf nf) (.tup (SqT.of upd_same) (q.mono (Same.fresh nf)))

/-! ### operations by their trees -/
def appO (o : Option Out) (e : En) : R Rv := match o with
  | some o => .ok o.rv e
  | none => .bad
def op1 (op : D → Option Out) (f : EX) : EX := fun env => match rd f env with
  | .ok a e1 => match a.get e1 with
    | some x => appO (op x) e1
    | none => .bad
  | r => r
def op2 (op : D → D → Option Out) (f g : EX) : EX := fun env => match rd f env with
  | .ok a e1 => match rd g e1 with
    | .ok b e2 => match a.get e2, b.get e2 with
      | some x, some y => appO (op x y) e2
      | _, _ => .bad
    | r => r
  | r => r
def Rule1 (m : Md) (r : V → Hp → VK → Prop) (op : D → Option Out) : Prop := ∀ F H x d o Q, Sub F H → Tp m F H x d → op d = some o → contO m F H Q o → r x H Q
def Rule2 (m : Md) (r : R2) (op : D → D → Option Out) : Prop := ∀ F H x y d e o Q, Sub F H → Tp m F H x d → Tp m F H y e → op d e = some o → contO m F H Q o → r x y H Q
section
variable {m : Md} {k : Kx} {σ : L2.St} {H : Hp} {Q : VK}
theorem post_app {c : Cn} {F : Hp} {e : En} {op : Option Out} (R : Rl m c F σ H e) (h : postX m k c F σ Q (appO op e)) : ∃ o, op = some o ∧ contO m F H Q o := by
  cases op with
  | none => exact h.elim
  | some o => exact ⟨o, rfl, cont_of R h⟩
theorem tX_op1 {r : V → Hp → VK → Prop} {op : D → Option Out} {f : EX} (rule : Rule1 m r op) (h : tX m k (op1 op f) σ H Q) : tUn r (tR m k f) σ H Q := by
  obtain ⟨c, F, env, hm, R, q⟩ := h
  refine ⟨c, F, env, hm, R, ?_⟩
  unfold op1 at q
  cases e1 : rd f env with
  | bad => rw [e1] at q; exact q
  | exc n i e => rw [e1] at q; exact q
  | ok a ea =>
    rw [e1] at q
    intro F' H' v s R1 z
    dsimp only at q
    cases g : a.get ea with
    | none => rw [g] at q; exact q.elim
    | some x =>
      rw [g] at q
      obtain ⟨o, ho, hc⟩ := post_app R1 (postX.mono s q)
      exact rule F' H' v x o Q R1.sub (z.tp R1 g) ho hc
theorem tX_op2 {r : R2} {op : D → D → Option Out} {f g : EX} (rule : Rule2 m r op) (h : tX m k (op2 op f g) σ H Q) : tOp r (tR m k f) (tR m k g) σ H Q := by
  obtain ⟨c, F, env, hm, R, q⟩ := h
  refine ⟨c, F, env, hm, R, ?_⟩
  unfold op2 at q
  cases e1 : rd f env with
  | bad => rw [e1] at q; exact q
  | exc n i e => rw [e1] at q; exact q
  | ok a ea =>
    rw [e1] at q
    intro F' H' v s R1 z
    refine ⟨c, F', ea, hm, R1, ?_⟩
    dsimp only at q
    cases e2 : rd g ea with
    | bad => rw [e2] at q; exact q
    | exc n i e => rw [e2] at q; exact fun F2 H2 s2 R2 => q F2 H2 (s.trans s2) R2
    | ok b eb =>
      rw [e2] at q
      intro F2 H2 u s2 R2 z2
      dsimp only at q
      cases g1 : a.get eb with
      | none => rw [g1] at q; exact q.elim
      | some x =>
        cases g2 : b.get eb with
        | none => rw [g1, g2] at q; exact q.elim
        | some y =>
          rw [g1, g2] at q
          obtain ⟨o, ho, hc⟩ := post_app R2 (postX.mono (s.trans s2) q)
          exact rule F2 H2 v u x y o Q R2.sub ((z.mono s2).tp R2 g1) (z2.tp R2 g2) ho hc
end

/-! ### arguments -/
abbrev AX := En → R (List Rv)
def aNil : AX := fun env => .ok [] env
def aCons (f : EX) (g : AX) : AX := fun env => match rd f env with
  | .ok a e1 => match g e1 with
    | .ok as e2 => .ok (a :: as) e2
    | .exc n i e => .exc n i e
    | .bad => .bad
  | .exc n i e => .exc n i e
  | .bad => .bad
/-- an argument: read, or a new one (the last alone) -/
def RvP (m : Md) (c : Cn) (F : Hp) (σ : L2.St) (H : Hp) (e : En) (v : V) (r : Rv) : Prop := RvQ m F σ v r ∨ ∃ d, r = .ow d ∧ RvR m c F σ H e v r
theorem RvP.tp {m : Md} {c : Cn} {F : Hp} {σ : L2.St} {H : Hp} {env : En} {v : V} {r : Rv} {d : D} (R : Rl m c F σ H env) (h : RvP m c F σ H env v r) (e : r.get env = some d) : Tp m F H v d := by
  rcases h with h | ⟨d', rfl, r', e', h, _⟩
  · exact h.tp R e
  · subst e'
    cases e
    exact Tp.own h.at_
def postA (m : Md) (k : Kx) (c : Cn) (F : Hp) (σ : L2.St) (Q : List V → Hp → Prop) : R (List Rv) → Prop
  | .ok rs e => ∀ F' H' vs, Sub F F' → Rl m c F' σ H' e → Paired (RvP m c F' σ H' e) vs rs → Q vs H'
  | .exc n i e => ∀ F' H', Sub F F' → Rl m c F' σ H' e → k.W n i σ H'
  | .bad => False
def tAX (m : Md) (k : Kx) (g : AX) : TA := fun σ H Q => ∃ c F env, c.M.map (·.1) = k.ms ∧ Rl m c F σ H env ∧ postA m k c F σ Q (g env)
abbrev PAX (X : Cx) (k : Kx) (es : List Expr) (g : AX) : Prop := PA X es (tAX (mdOf X) k g)
theorem impA {X : Cx} {es : List Expr} {t t' : TA} (h : PA X es t) (hi : ∀ σ H Q, t' σ H Q → t σ H Q) : PA X es t' := ⟨fun pos pins s σ H Q I q => h.run pos pins s σ H Q I (hi σ H Q q)⟩
section
variable {X : Cx} {k : Kx} {e : Expr} {es : List Expr} {f : EX} {g : AX}
theorem pax_nil : PAX X k [] aNil := impA pa_nil fun σ H Q ⟨c, F, env, hm, R, q⟩ => q F H [] (Same.refl _) R .nil
theorem pax_cons (ha : PX X k e f) (hr : PAX X k es g) (hs : starEach (e :: es) X.env = (false, eval e X.env) :: starEach es X.env := by rfl) : PAX X k (e :: es) (aCons f g) := by
  refine impA (pa_cons ha.rd hr hs) ?_
  rintro σ H Q ⟨c, F, env, hm, R, q⟩
  refine ⟨c, F, env, hm, R, ?_⟩
  unfold aCons at q
  cases e1 : T3.rd f env with
  | bad => rw [e1] at q; exact q
  | exc n i e => rw [e1] at q; exact q
  | ok a ea =>
    rw [e1] at q
    intro F' H' v s R1 z
    refine ⟨c, F', ea, hm, R1, ?_⟩
    dsimp only at q
    cases e2 : g ea with
    | bad => rw [e2] at q; exact q
    | exc n i e => rw [e2] at q; exact fun F2 H2 s2 R2 => q F2 H2 (s.trans s2) R2
    | ok b eb =>
      rw [e2] at q
      exact fun F2 H2 us s2 R2 z2 => q F2 H2 (v :: us) (s.trans s2) R2 (.cons (.inl (z.mono s2)) z2)
end
/-- the last argument, as it is -/
def aLast (f : EX) : AX := fun env => match f env with
  | .ok r e => .ok [r] e
  | .exc n i e => .exc n i e
  | .bad => .bad
theorem pax_last {X : Cx} {k : Kx} {e : Expr} {f : EX} (ha : PX X k e f) (hs : starEach [e] X.env = (false, eval e X.env) :: starEach [] X.env := by rfl) : PAX X k [e] (aLast f) := by
  refine impA (pa_cons ha pa_nil hs) ?_
  rintro σ H Q ⟨c, F, env, hm, R, q⟩
  refine ⟨c, F, env, hm, R, ?_⟩
  unfold aLast at q
  cases e1 : f env with
  | bad => rw [e1] at q; exact q
  | exc n i e => rw [e1] at q; exact q
  | ok a ea =>
    rw [e1] at q
    intro F' H' v s R1 z
    refine q F' H' [v] s R1 (.cons ?_ .nil)
    cases a with
    | fz d => exact .inl z
    | sl i => exact .inl z.1
    | ow d => exact .inr ⟨d, rfl, z⟩
def getA (e : En) : List Rv → Option (List D)
  | [] => some []
  | r :: rs => match r.get e, getA e rs with
    | some d, some ds => some (d :: ds)
    | _, _ => none
/-- read trees of several values -/
def TpA (m : Md) (F H : Hp) : List V → List D → Prop := Paired (Tp m F H)
theorem getA_tp {m : Md} {c : Cn} {F : Hp} {σ : L2.St} {H : Hp} {env : En} (R : Rl m c F σ H env) : ∀ {vs : List V} {rs : List Rv} {ds : List D}, Paired (RvP m c F σ H env) vs rs → getA env rs = some ds → TpA m F H vs ds
  | _, _, _, .nil, e => by cases e; exact .nil
  | _, _, ds, .cons (b := r) h t, e => by
    unfold getA at e
    split at e
    · cases e
      exact .cons (h.tp R (by assumption)) (getA_tp R t (by assumption))
    · cases e
/-- a call by values -/
def opN (op : List D → Option Out) (g : AX) : EX := fun env => match g env with
  | .ok as e1 => match getA e1 as with
    | some xs => appO (op xs) e1
    | none => .bad
  | .exc n i e => .exc n i e
  | .bad => .bad
def RuleN (m : Md) (r : List V → Hp → VK → Prop) (op : List D → Option Out) : Prop := ∀ F H xs ds o Q, Sub F H → TpA m F H xs ds → op ds = some o → contO m F H Q o → r xs H Q
theorem tX_opN {m : Md} {k : Kx} {σ : L2.St} {H : Hp} {Q : VK} {r : List V → Hp → VK → Prop} {op : List D → Option Out} {g : AX} (rule : RuleN m r op) (h : tX m k (opN op g) σ H Q) : tCB r (tAX m k g) σ H Q := by
  obtain ⟨c, F, env, hm, R, q⟩ := h
  refine ⟨c, F, env, hm, R, ?_⟩
  unfold opN at q
  cases e1 : g env with
  | bad => rw [e1] at q; exact q
  | exc n i e => rw [e1] at q; exact q
  | ok as ea =>
    rw [e1] at q
    intro F' H' vs s R1 z
    dsimp only at q
    cases g1 : getA ea as with
    | none => rw [g1] at q; exact q.elim
    | some xs =>
      rw [g1] at q
      obtain ⟨o, ho, hc⟩ := post_app R1 (postX.mono s q)
      exact rule F' H' vs xs o Q R1.sub (getA_tp R1 z g1) ho hc
section
variable {X : Cx} {k : Kx} {a b e : Expr} {es : List Expr} {f g : EX} {ga : AX} {pos : Pos}
theorem px_bin {op : Operator} {r : R2} {fn : D → D → Option Out} (ho : OpR X (binaryOp op) r) (rule : Rule2 (mdOf X) r fn) (ha : PX X k a f) (hb : PX X k b g) : PX X k (.BinOp a op b pos) (op2 fn f g) :=
  imp (pe_op ho ha.rd hb.rd) fun _ _ _ q => tX_op2 rule q
theorem px_un {op : UnaryOp} {r : V → Hp → VK → Prop} {fn : D → Option Out} (ho : UnR X (unaryOp op) r) (rule : Rule1 (mdOf X) r fn) (ha : PX X k a f) : PX X k (.UnaryOp op a pos) (op1 fn f) :=
  imp (pe_un ho ha.rd) fun _ _ _ q => tX_op1 rule q
theorem px_cmp {op : CmpOp} {r : R2} {fn : D → D → Option Out} (ho : OpR X (compareOp op) r) (rule : Rule2 (mdOf X) r fn) (ha : PX X k a f) (hb : PX X k b g) (hm : behindInMarks op b = false) : PX X k (.Compare a [op] [b] pos) (op2 fn f g) :=
  imp (pe_cmpR ho ha.rd hb.rd hm) fun _ _ _ q => tX_op2 rule q
theorem px_ix {r : R2} {fn : D → D → Option Out} (hr : IxR X r) (rule : Rule2 (mdOf X) r fn) (ha : PX X k a f) (hb : PX X k b g) (hs : PlainIx b) : PX X k (.Subscript a b pos) (op2 fn f g) :=
  imp (pe_ix hr ha.rd hb.rd hs) fun _ _ _ q => tX_op2 rule q
theorem px_callB {id : String} {x : Str} {p : Pos} {r : List V → Hp → VK → Prop} {fn : List D → Option Out} (hc : CallR X (.builtin id) r) (rule : RuleN (mdOf X) r fn) (ha : PAX X k (e :: es) ga) (hg : Gl X x) (hm : X.mg x = none) (hv : bootBuiltins x = some (.builtin id))
    (hn : x ≠ "__name__" := by decide) (hdb : (x == ("__debug__" : Str)) = false := by decide)
    (he : starEach (e :: es) X.env = (false, eval e X.env) :: starEach es X.env := by rfl) (hpl : (backTo pos (starEach es X.env)).any (·.1) = false := by rfl) : PX X k (.Call (.Name x p) (e :: es) [] pos) (opN fn ga) :=
  imp (pe_callB hc hg hm hv ha hn hdb he hpl) fun _ _ _ q => tX_opN rule q
theorem px_callTy {T : String} {x : Str} {p : Pos} {r : List V → Hp → VK → Prop} {fn : List D → Option Out} (hc : CallR X (.type T) r) (rule : RuleN (mdOf X) r fn) (ha : PAX X k (e :: es) ga) (hg : Gl X x) (hm : X.mg x = none) (hv : bootBuiltins x = some (.type T))
    (hn : x ≠ "__name__" := by decide) (hdb : (x == ("__debug__" : Str)) = false := by decide)
    (he : starEach (e :: es) X.env = (false, eval e X.env) :: starEach es X.env := by rfl) (hpl : (backTo pos (starEach es X.env)).any (·.1) = false := by rfl) : PX X k (.Call (.Name x p) (e :: es) [] pos) (opN fn ga) :=
  imp (pe_callTy hc hg hm hv ha hn hdb he hpl) fun _ _ _ q => tX_opN rule q
end
/-! ### displays -/
def allFz : List Rv → Option (List D)
  | [] => some []
  | .fz d :: rs => match allFz rs with
    | some ds => some (d :: ds)
    | none => none
  | _ :: _ => none
theorem RvP.fz {m : Md} {c : Cn} {F : Hp} {σ : L2.St} {H : Hp} {env : En} {v : V} {d : D} (h : RvP m c F σ H env v (.fz d)) : Fz m F v d := by
  rcases h with h | ⟨d', e, _⟩
  · exact h
  · cases e
theorem allFz_fz {m : Md} {c : Cn} {F : Hp} {σ : L2.St} {H : Hp} {env : En} : ∀ {vs : List V} {rs : List Rv} {ds : List D}, Paired (RvP m c F σ H env) vs rs → allFz rs = some ds → FzA m F vs ds
  | _, _, _, .nil, e => by cases e; exact .nil
  | _, _, ds, .cons (b := .fz d) h t, e => by
    dsimp only [allFz] at e
    split at e
    · cases e
      exact .cons h.fz (allFz_fz t (by assumption))
    · cases e
  | _, _, ds, .cons (b := .sl d) h t, e => by cases e
  | _, _, ds, .cons (b := .ow d) h t, e => by cases e
/-- the items are given away -/
def dsp (op : List D → Option Out) (g : AX) : EX := fun env => match g env with
  | .ok as e1 => match allFz as with
    | some xs => appO (op xs) e1
    | none => .bad
  | .exc n i e => .exc n i e
  | .bad => .bad
def line : Nat := 16777216
def oTup : List D → Option Out := fun ds => if ds.length ≤ line then some (.nt ds) else none
def oLst : List D → Option Out := fun ds => if ds.length ≤ line then some (.nl ds) else none
def RuleD (m : Md) (r : List V → Hp → VK → Prop) (op : List D → Option Out) : Prop := ∀ F H xs ds o Q, Sub F H → FzA m F xs ds → op ds = some o → contO m F H Q o → r xs H Q
theorem tX_dsp {m : Md} {k : Kx} {σ : L2.St} {H : Hp} {Q : VK} {r : List V → Hp → VK → Prop} {op : List D → Option Out} {g : AX} (rule : RuleD m r op) (h : tX m k (dsp op g) σ H Q) : tAX m k g σ H (fun vs H1 => r vs H1 Q) := by
  obtain ⟨c, F, env, hm, R, q⟩ := h
  refine ⟨c, F, env, hm, R, ?_⟩
  unfold dsp at q
  cases e1 : g env with
  | bad => rw [e1] at q; exact q
  | exc n i e => rw [e1] at q; exact q
  | ok as ea =>
    rw [e1] at q
    intro F' H' vs s R1 z
    dsimp only at q
    cases g1 : allFz as with
    | none => rw [g1] at q; exact q.elim
    | some xs =>
      rw [g1] at q
      obtain ⟨o, ho, hc⟩ := post_app R1 (postX.mono s q)
      exact rule F' H' vs xs o Q R1.sub (allFz_fz z g1) ho hc
theorem line_eq : (line : Nat) = sizeLine := by rw [sizeLine_eq]; rfl
section
variable {X : Cx} {k : Kx} {es : List Expr} {ga : AX} {pos : Pos}
theorem px_tup {j} (ha : PAX X k es ga) : PX X k (.Tuple es j pos) (dsp oTup ga) :=
  imp (pe_tup ha) fun σ H Q q => tX_dsp (r := fun xs H1 Q => xs.length ≤ sizeLine ∧ ∀ p, H1 p = none → Q (.ref p) (upd H1 p (.tup xs))) (fun F H xs ds o Q s z e q => by
    unfold oTup at e
    split at e
    · cases e
      rename_i hl
      exact ⟨by rw [z.length, ← line_eq]; exact hl, fun p hp => q p xs hp z⟩
    · cases e) q
theorem px_lst (ha : PAX X k es ga) : PX X k (.List es pos) (dsp oLst ga) :=
  imp (pe_lst ha) fun σ H Q q => tX_dsp (r := fun xs H1 Q => xs.length ≤ sizeLine ∧ ∀ p, H1 p = none → Q (.ref p) (upd H1 p (.lst xs))) (fun F H xs ds o Q s z e q => by
    unfold oLst at e
    split at e
    · cases e
      rename_i hl
      exact ⟨by rw [z.length, ← line_eq]; exact hl, fun p hp => q p xs hp z⟩
    · cases e) q
end
end T3
end

section
set_option autoImplicit false
/-! THE TREE LAYER, part C: tests, statements, loops. -/
namespace T3
open PySem PySem.Spec PyProof.Rows L2

/-! ### tests -/
abbrev BX := En → R Bool
def postT (m : Md) (k : Kx) (c : Cn) (F : Hp) (σ : L2.St) (Q : Bool → Hp → Prop) : R Bool → Prop
  | .ok b e => ∀ F' H', Sub F F' → Rl m c F' σ H' e → Q b H'
  | .exc n i e => ∀ F' H', Sub F F' → Rl m c F' σ H' e → k.W n i σ H'
  | .bad => False
def tT (m : Md) (k : Kx) (f : BX) : TT := fun σ H Q => ∃ c F env, c.M.map (·.1) = k.ms ∧ Rl m c F σ H env ∧ postT m k c F σ Q (f env)
abbrev PTX (X : Cx) (k : Kx) (e : Expr) (f : BX) : Prop := PT X e (tT (mdOf X) k f)
theorem impT {X : Cx} {e : Expr} {t t' : TT} (h : PT X e t) (hi : ∀ σ H Q, t' σ H Q → t σ H Q) : PT X e t' := ⟨fun pins s σ H Q I q => h.run pins s σ H Q I (hi σ H Q q)⟩
theorem impW {X : Cx} {e : Expr} {t t' : TT} (h : PW X e t) (hi : ∀ σ H Q, t' σ H Q → t σ H Q) : PW X e t' := ⟨fun wh pins s σ H Q I q => h.run wh pins s σ H Q I (hi σ H Q q)⟩
theorem postT.mono {m : Md} {k : Kx} {c : Cn} {F F0 : Hp} {σ : L2.St} {Q : Bool → Hp → Prop} {r : R Bool} (s : Sub F0 F) (h : postT m k c F0 σ Q r) : postT m k c F σ Q r := by
  cases r with
  | ok r e => exact fun F' H' s' R => h F' H' (s.trans s') R
  | exc n i e => exact fun F' H' s' R => h F' H' (s.trans s') R
  | bad => exact h
/-- an expression whose value is a bool, tested -/
def tst (f : EX) : BX := fun env => match f env with
  | .ok (.fz (.bool b)) e => .ok b e
  | .exc n i e => .exc n i e
  | _ => .bad
section
variable {m : Md} {k : Kx} {σ : L2.St} {H : Hp}
theorem tT_tst {f : EX} {Q : Bool → Hp → Prop} (h : tT m k (tst f) σ H Q) : tX m k f σ H (fun x H' => ∃ b, x = .bl b ∧ Q b H') := by
  obtain ⟨c, F, env, hm, R, q⟩ := h
  refine ⟨c, F, env, hm, R, ?_⟩
  unfold tst at q
  cases e1 : f env with
  | bad => rw [e1] at q; exact q
  | exc n i e => rw [e1] at q; exact q
  | ok r e =>
    rw [e1] at q
    cases r with
    | sl i => exact q.elim
    | ow d => exact q.elim
    | fz d =>
      cases d with
      | bool b =>
        intro F' H' v s R1 z
        cases z
        exact ⟨b, rfl, q F' H' s R1⟩
      | none => exact q.elim
      | int _ => exact q.elim
      | str _ => exact q.elim
      | list _ => exact q.elim
      | tuple _ => exact q.elim
      | dict _ => exact q.elim
end
/-- a tree's truth -/
def truD : D → Option Bool
  | .none => some false
  | .bool b => some b
  | .int i => some (i != 0)
  | .str x => if x.length ≤ line then some ((x.length : Int) != 0) else none
  | .list ds => some (!ds.isEmpty)
  | .tuple ds => some (!ds.isEmpty)
  | .dict _ => none
theorem FzA.isEmpty {m : Md} {F : Hp} {vs : List V} {ds : List D} (h : FzA m F vs ds) : vs.isEmpty = ds.isEmpty := by cases h <;> rfl
theorem truD_ok {m : Md} {F H : Hp} {v : V} {b : Bool} (s : Sub F H) : ∀ {d : D}, Tp m F H v d → truD d = some b → TruV m.K v H b
  | .none, h, e => by cases h; cases e; rfl
  | .bool _, h, e => by cases h; cases e; rfl
  | .int _, h, e => by cases h; cases e; rfl
  | .str x, h, e => by
    cases h
    dsimp only [truD] at e
    split at e
    · cases e
      rename_i hl
      exact ⟨by rw [← line_eq]; exact hl, rfl⟩
    · cases e
  | .list _, ⟨_, xs, ev, h, a⟩, e => by cases e; subst ev; exact .inl ⟨xs, h, by rw [a.isEmpty]⟩
  | .tuple _, h, e => by
    cases e
    have h' : Fz m F v (.tuple _) := h
    clear h
    cases h' with
    | tup g a => exact .inr (.inl ⟨_, sqT_mono s g, by rw [a.isEmpty]⟩)
  | .dict _, _, e => by cases e
/-- the truth of a value -/
def tru (f : EX) : BX := fun env => match rd f env with
  | .ok a e => match a.get e with
    | some d => match truD d with
      | some b => .ok b e
      | none => .bad
    | none => .bad
  | .exc n i e => .exc n i e
  | .bad => .bad
section
variable {m : Md} {k : Kx} {σ : L2.St} {H : Hp}
theorem tT_tru {f : EX} {Q : Bool → Hp → Prop} (h : tT m k (tru f) σ H Q) : tR m k f σ H (fun x H' => ∃ b, TruV m.K x H' b ∧ Q b H') := by
  obtain ⟨c, F, env, hm, R, q⟩ := h
  refine ⟨c, F, env, hm, R, ?_⟩
  unfold tru at q
  cases e1 : rd f env with
  | bad => rw [e1] at q; exact q
  | exc n i e => rw [e1] at q; exact q
  | ok a e =>
    rw [e1] at q
    intro F' H' v s R1 z
    dsimp only at q
    split at q
    · rename_i d hd
      split at q
      · rename_i b hb
        exact ⟨b, truD_ok R1.sub (z.tp R1 hd) hb, q F' H' s R1⟩
      · exact q.elim
    · exact q.elim
end
/-- a or b, a and b, not a: of tests -/
def tOr (f g : BX) : BX := fun env => match f env with
  | .ok true e => .ok true e
  | .ok false e => g e
  | r => r
def tAnd (f g : BX) : BX := fun env => match f env with
  | .ok true e => g e
  | r => r
def tNot (f : BX) : BX := fun env => match f env with
  | .ok b e => .ok (!b) e
  | r => r
/-- op1 and then op2, a < b < c -/
def opC (op op' : D → D → Option Out) (f g h : EX) : EX := fun env => match rd f env with
  | .ok a e1 => match rd g e1 with
    | .ok b e2 => match a.get e2, b.get e2 with
      | some x, some y => match op x y with
        | some (.fz (.bool true)) => match rd h e2 with
          | .ok c e3 => match b.get e3, c.get e3 with
            | some y, some z => appO (op' y z) e3
            | _, _ => .bad
          | r => r
        | some (.fz (.bool false)) => .ok (.fz (.bool false)) e2
        | _ => .bad
      | _, _ => .bad
    | r => r
  | r => r
def vOr (ms : List Nat) (f g : EX) : EX := fun env => match fz ms f env with
  | .ok (.fz d) e => match truD d with
    | some true => .ok (.fz d) e
    | some false => g e
    | none => .bad
  | .exc n i e => .exc n i e
  | _ => .bad
def vAnd (ms : List Nat) (f g : EX) : EX := fun env => match fz ms f env with
  | .ok (.fz d) e => match truD d with
    | some true => g e
    | some false => .ok (.fz d) e
    | none => .bad
  | .exc n i e => .exc n i e
  | _ => .bad
def vNot (f : EX) : EX := fun env => match tru f env with
  | .ok b e => .ok (.fz (.bool (!b))) e
  | .exc n i e => .exc n i e
  | .bad => .bad
def vIf (t : BX) (f g : EX) : EX := fun env => match t env with
  | .ok true e => f e
  | .ok false e => g e
  | .exc n i e => .exc n i e
  | .bad => .bad
section
variable {X : Cx} {k : Kx} {a b c e : Expr} {rest : List Expr} {f g h : EX} {t u : BX} {pos : Pos}
theorem ptx_cmp {op : CmpOp} {r : R2} {fn : D → D → Option Out} (ho : OpR X (compareOp op) r) (rule : Rule2 (mdOf X) r fn) (ha : PX X k a f) (hb : PX X k b g) (hm : behindInMarks op b = false) : PTX X k (.Compare a [op] [b] pos) (tst (op2 fn f g)) :=
  impT (pt_cmpR ho ha.rd hb.rd hm) fun _ _ _ q => tX_op2 rule (tT_tst q)
theorem ptx_tru (ha : PX X k a f) (he : ∀ whole, isTrue a X.env whole = (do let v ← whole; standAt a.pos; holding [v] (truthy v)) := by intro _; rfl) : PTX X k a (tru f) :=
  impT (pt_truth ha.rd he) fun _ _ _ q => tT_tru q
theorem post_tAnd {m : Md} {c : Cn} {F : Hp} {σ : L2.St} {H : Hp} {env : En} {Q : Bool → Hp → Prop} (hm : c.M.map (·.1) = k.ms) (R : Rl m c F σ H env) (q : postT m k c F σ Q (tAnd t u env)) : L2.tAnd (tT m k t) (tT m k u) σ H Q := by
  refine ⟨c, F, env, hm, R, ?_⟩
  unfold tAnd at q
  cases e1 : t env with
  | bad => rw [e1] at q; exact q
  | exc n i e => rw [e1] at q; exact q
  | ok b e =>
    rw [e1] at q
    intro F' H' s R1
    cases b with
    | false => exact q F' H' s R1
    | true => exact ⟨c, F', e, hm, R1, q.mono s⟩
theorem post_tOr {m : Md} {c : Cn} {F : Hp} {σ : L2.St} {H : Hp} {env : En} {Q : Bool → Hp → Prop} (hm : c.M.map (·.1) = k.ms) (R : Rl m c F σ H env) (q : postT m k c F σ Q (tOr t u env)) : L2.tOr (tT m k t) (tT m k u) σ H Q := by
  refine ⟨c, F, env, hm, R, ?_⟩
  unfold tOr at q
  cases e1 : t env with
  | bad => rw [e1] at q; exact q
  | exc n i e => rw [e1] at q; exact q
  | ok b e =>
    rw [e1] at q
    intro F' H' s R1
    cases b with
    | true => exact q F' H' s R1
    | false => exact ⟨c, F', e, hm, R1, q.mono s⟩
theorem pw_and1' (ha : PTX X k a t) : PW X (.BoolOp .And [a] pos) (tT (mdOf X) k t) := pw_and1 ha
theorem pw_or1' (ha : PTX X k a t) : PW X (.BoolOp .Or [a] pos) (tT (mdOf X) k t) := pw_or1 ha
theorem pw_and' (ha : PTX X k a t) (hb : PW X (.BoolOp .And (b :: rest) pos) (tT (mdOf X) k u)) : PW X (.BoolOp .And (a :: b :: rest) pos) (tT (mdOf X) k (tAnd t u)) :=
  impW (pw_and ha hb) fun _ _ _ ⟨_, _, _, hm, R, q⟩ => post_tAnd hm R q
theorem pw_or' (ha : PTX X k a t) (hb : PW X (.BoolOp .Or (b :: rest) pos) (tT (mdOf X) k u)) : PW X (.BoolOp .Or (a :: b :: rest) pos) (tT (mdOf X) k (tOr t u)) :=
  impW (pw_or ha hb) fun _ _ _ ⟨_, _, _, hm, R, q⟩ => post_tOr hm R q
theorem ptx_not (ha : PTX X k a t) : PTX X k (.UnaryOp .Not a pos) (tNot t) := impT (pt_not ha) fun σ H Q ⟨c, F, env, hm, R, q⟩ => by
  refine ⟨c, F, env, hm, R, ?_⟩
  unfold tNot at q
  cases e1 : t env with
  | bad => rw [e1] at q; exact q
  | exc n i e => rw [e1] at q; exact q
  | ok b e => rw [e1] at q; exact q
theorem tX_chain {m : Md} {r r' : R2} {fn fn' : D → D → Option Out} (rule : Rule2 m r fn) (rule' : Rule2 m r' fn') {σ : L2.St} {H : Hp} {Q : VK} (q : tX m k (opC fn fn' f g h) σ H Q) : tChain r r' (tR m k f) (tR m k g) (tR m k h) σ H Q := by
  obtain ⟨c, F, env, hm, R, q⟩ := q
  refine ⟨c, F, env, hm, R, ?_⟩
  unfold opC at q
  cases e1 : rd f env with
  | bad => rw [e1] at q; exact q
  | exc n i e => rw [e1] at q; exact q
  | ok a ea =>
    rw [e1] at q
    intro F' H' v s R1 z
    refine ⟨c, F', ea, hm, R1, ?_⟩
    dsimp only at q
    cases e2 : rd g ea with
    | bad => rw [e2] at q; exact q
    | exc n i e => rw [e2] at q; exact fun F2 H2 s2 R2 => q F2 H2 (s.trans s2) R2
    | ok b eb =>
      rw [e2] at q
      intro F2 H2 u s2 R2 z2
      dsimp only at q
      cases g1 : a.get eb with
      | none => rw [g1] at q; exact q.elim
      | some x =>
        cases g2 : b.get eb with
        | none => rw [g1, g2] at q; exact q.elim
        | some y =>
          rw [g1, g2] at q
          dsimp only at q
          split at q
          · rename_i ho
            refine rule F2 H2 v u x y _ _ R2.sub ((z.mono s2).tp R2 g1) (z2.tp R2 g2) ho fun v1 hv1 => ?_
            cases hv1
            refine ⟨true, rfl, ?_⟩
            rw [if_pos rfl]
            refine ⟨c, F2, eb, hm, R2, ?_⟩
            cases e3 : rd h eb with
            | bad => rw [e3] at q; exact q
            | exc n i e => rw [e3] at q; exact fun F3 H3 s3 R3 => q F3 H3 ((s.trans s2).trans s3) R3
            | ok c' ec =>
              rw [e3] at q
              intro F3 H3 u3 s3 R3 z3
              dsimp only at q
              split at q
              · rename_i y' w' g3 g4
                obtain ⟨o, ho', hc⟩ := post_app R3 (postX.mono ((s.trans s2).trans s3) q)
                exact rule' F3 H3 u u3 y' w' o Q R3.sub ((z2.mono s3).tp R3 g3) (z3.tp R3 g4) ho' hc
              · exact q.elim
          · rename_i ho
            refine rule F2 H2 v u x y _ _ R2.sub ((z.mono s2).tp R2 g1) (z2.tp R2 g2) ho fun v1 hv1 => ?_
            cases hv1
            refine ⟨false, rfl, ?_⟩
            rw [if_neg Bool.false_ne_true]
            exact q F2 H2 _ (s.trans s2) R2 (.bl false)
          · exact q.elim
theorem px_chain {op op' : CmpOp} {r r' : R2} {fn fn' : D → D → Option Out} (ho : OpR X (compareOp op) r) (rule : Rule2 (mdOf X) r fn) (ho' : OpR X (compareOp op') r') (rule' : Rule2 (mdOf X) r' fn') (ha : PX X k a f) (hb : PX X k b g) (hc : PX X k c h)
    (hm : lastMarks [op, op'] [b, c] = false := by with_unfolding_all rfl) : PX X k (.Compare a [op, op'] [b, c] pos) (opC fn fn' f g h) :=
  imp (pe_chain ho ho' ha.rd hb.rd hc.rd hm) fun _ _ _ q => tX_chain rule rule' q
theorem ptx_chain {op op' : CmpOp} {r r' : R2} {fn fn' : D → D → Option Out} (ho : OpR X (compareOp op) r) (rule : Rule2 (mdOf X) r fn) (ho' : OpR X (compareOp op') r') (rule' : Rule2 (mdOf X) r' fn') (ha : PX X k a f) (hb : PX X k b g) (hc : PX X k c h)
    (hm : lastMarks [op, op'] [b, c] = false := by with_unfolding_all rfl) : PTX X k (.Compare a [op, op'] [b, c] pos) (tst (opC fn fn' f g h)) :=
  impT (pt_chain ho ho' ha.rd hb.rd hc.rd hm) fun _ _ _ q => tX_chain rule rule' (tT_tst q)
theorem px_one {op} (ha : PX X k a f) : PX X k (.BoolOp op [a] pos) f := pe_one ha
theorem tX_or {m : Md} {σ : L2.St} {H : Hp} {Q : VK} (q : tX m k (vOr k.ms f g) σ H Q) : tOrT m.K (tX m k (fz k.ms f)) (tX m k g) σ H Q := by
  obtain ⟨c, F, env, hm, R, q⟩ := q
  refine ⟨c, F, env, hm, R, ?_⟩
  unfold vOr at q
  cases e1 : fz k.ms f env with
  | bad => rw [e1] at q; exact q
  | exc n i e => rw [e1] at q; exact q
  | ok a e =>
    rw [e1] at q
    cases a with
    | sl i => exact q.elim
    | ow d => exact q.elim
    | fz d =>
      intro F' H' v s R1 z
      dsimp only at q
      split at q
      · rename_i hb
        refine ⟨true, truD_ok R1.sub (Tp.of R1.sub z) hb, ?_⟩
        rw [if_pos rfl]
        exact q F' H' v s R1 z
      · rename_i hb
        refine ⟨false, truD_ok R1.sub (Tp.of R1.sub z) hb, ?_⟩
        rw [if_neg Bool.false_ne_true]
        exact ⟨c, F', e, hm, R1, q.mono s⟩
      · exact q.elim
theorem tX_and {m : Md} {σ : L2.St} {H : Hp} {Q : VK} (q : tX m k (vAnd k.ms f g) σ H Q) : tAndT m.K (tX m k (fz k.ms f)) (tX m k g) σ H Q := by
  obtain ⟨c, F, env, hm, R, q⟩ := q
  refine ⟨c, F, env, hm, R, ?_⟩
  unfold vAnd at q
  cases e1 : fz k.ms f env with
  | bad => rw [e1] at q; exact q
  | exc n i e => rw [e1] at q; exact q
  | ok a e =>
    rw [e1] at q
    cases a with
    | sl i => exact q.elim
    | ow d => exact q.elim
    | fz d =>
      intro F' H' v s R1 z
      dsimp only at q
      split at q
      · rename_i hb
        refine ⟨true, truD_ok R1.sub (Tp.of R1.sub z) hb, ?_⟩
        rw [if_pos rfl]
        exact ⟨c, F', e, hm, R1, q.mono s⟩
      · rename_i hb
        refine ⟨false, truD_ok R1.sub (Tp.of R1.sub z) hb, ?_⟩
        rw [if_neg Bool.false_ne_true]
        exact q F' H' v s R1 z
      · exact q.elim
theorem px_or (ha : PX X k a f) (hb : PX X k (.BoolOp .Or (b :: rest) pos) g) : PX X k (.BoolOp .Or (a :: b :: rest) pos) (vOr k.ms f g) := imp (pe_orT ha.fz hb) fun _ _ _ q => tX_or q
theorem px_and (ha : PX X k a f) (hb : PX X k (.BoolOp .And (b :: rest) pos) g) : PX X k (.BoolOp .And (a :: b :: rest) pos) (vAnd k.ms f g) := imp (pe_andT ha.fz hb) fun _ _ _ q => tX_and q
theorem px_not (ha : PX X k a f) : PX X k (.UnaryOp .Not a pos) (vNot f) := imp (pe_notT ha.rd) fun σ H Q ⟨c, F, env, hm, R, q⟩ => by
  have q : postX _ _ _ _ _ _ (vNot f env) := q
  have z : tT (mdOf X) k (tru f) σ H (fun b H' => Q (.bl (!b)) H') := by
    refine ⟨c, F, env, hm, R, ?_⟩
    unfold vNot at q
    cases e1 : tru f env with
    | bad => rw [e1] at q; exact q
    | exc n i e => rw [e1] at q; exact q
    | ok b e => rw [e1] at q; exact fun F' H' s R1 => q F' H' _ s R1 (.bl _)
  exact tT_tru z
theorem px_if (ht : PTX X k c t) (ha : PX X k a f) (hb : PX X k b g) : PX X k (.IfExp c a b pos) (vIf t f g) := imp (pe_ifExp ht ha hb) fun σ H Q ⟨c, F, env, hm, R, q⟩ => by
  refine ⟨c, F, env, hm, R, ?_⟩
  unfold vIf at q
  cases e1 : t env with
  | bad => rw [e1] at q; exact q
  | exc n i e => rw [e1] at q; exact q
  | ok b e =>
    rw [e1] at q
    intro F' H' s R1
    cases b with
    | true => rw [if_pos rfl]; exact ⟨c, F', e, hm, R1, q.mono s⟩
    | false => rw [if_neg Bool.false_ne_true]; exact ⟨c, F', e, hm, R1, q.mono s⟩
end
end T3
end

section
set_option autoImplicit false
/-! THE TREE LAYER, part D: statements, loops. -/
namespace T3
open PySem PySem.Spec PyProof.Rows L2

def postS (m : Md) (k : Kx) (c : Cn) (F : Hp) (D : Ends) : O → Prop
  | .nx e => ∀ F' σ' H', Sub F F' → Rl m c F' σ' H' e → D.nx σ' H'
  | .rt r e => ∀ F' σ' H' v, Sub F F' → Rl m c F' σ' H' e → RvR m c F' σ' H' e v r → D.rt v H'
  | .bk e => ∀ F' σ' H', Sub F F' → Rl m c F' σ' H' e → D.bk σ' H'
  | .ct e => ∀ F' σ' H', Sub F F' → Rl m c F' σ' H' e → D.ct σ' H'
  | .exc n i e => ∀ F' σ' H', Sub F F' → Rl m c F' σ' H' e → k.W n i σ' H'
  | .bad => False
def tS (m : Md) (k : Kx) (f : SX) : TS := fun D σ H => ∃ c F env, c.M.map (·.1) = k.ms ∧ Rl m c F σ H env ∧ postS m k c F D (f env)
abbrev PSX (X : Cx) (k : Kx) (st : Stmt) (f : SX) : Prop := PS X st (tS (mdOf X) k f)
abbrev PSsX (X : Cx) (k : Kx) (st : List Stmt) (f : SX) : Prop := PSs X st (tS (mdOf X) k f)
theorem impS {X : Cx} {st : Stmt} {t t' : TS} (h : PS X st t) (hi : ∀ D σ H, t' D σ H → t D σ H) : PS X st t' := ⟨fun pins s σ H D I q => h.run pins s σ H D I (hi D σ H q)⟩
theorem impSs {X : Cx} {st : List Stmt} {t t' : TS} (h : PSs X st t) (hi : ∀ D σ H, t' D σ H → t D σ H) : PSs X st t' := ⟨fun pins s σ H D I q => h.run pins s σ H D I (hi D σ H q)⟩
theorem postS.mono {m : Md} {k : Kx} {c : Cn} {F F0 : Hp} {D : Ends} {r : O} (s : Sub F0 F) (h : postS m k c F0 D r) : postS m k c F D r := by
  cases r with
  | nx e => exact fun F' σ' H' s' R => h F' σ' H' (s.trans s') R
  | rt r e => exact fun F' σ' H' v s' R => h F' σ' H' v (s.trans s') R
  | bk e => exact fun F' σ' H' s' R => h F' σ' H' (s.trans s') R
  | ct e => exact fun F' σ' H' s' R => h F' σ' H' (s.trans s') R
  | exc n i e => exact fun F' σ' H' s' R => h F' σ' H' (s.trans s') R
  | bad => exact h

/-! ### blocks -/
def sNil : SX := fun env => .nx env
def sSeq (f g : SX) : SX := fun env => match f env with
  | .nx e => g e
  | r => r
def sBad : SX := fun _ => .bad
def sIf (t : BX) (f g : SX) : SX := fun env => match t env with
  | .ok true e => f e
  | .ok false e => g e
  | .exc n i e => .exc n i e
  | .bad => .bad
def sRet (f : EX) : SX := fun env => match f env with
  | .ok r e => .rt r e
  | .exc n i e => .exc n i e
  | .bad => .bad
def sRetN : SX := fun env => .rt (.fz .none) env
def sExpr (f : EX) : SX := fun env => match f env with
  | .ok _ e => .nx e
  | .exc n i e => .exc n i e
  | .bad => .bad
def sBk : SX := fun env => .bk env
def sCt : SX := fun env => .ct env
section
variable {X : Cx} {k : Kx} {st : Stmt} {rest a b : List Stmt} {f g : SX} {t : BX} {c e : Expr} {fe : EX} {pos : Pos}
theorem psx_nil : PSsX X k [] sNil := impSs pss_nil fun D σ H ⟨c, F, env, hm, R, q⟩ => q F σ H (Same.refl _) R
theorem psx_cons (h1 : PSX X k st f) (h2 : PSsX X k rest g) : PSsX X k (st :: rest) (sSeq f g) := impSs (pss_cons h1 h2) fun D σ H ⟨c, F, env, hm, R, q⟩ => by
  refine ⟨c, F, env, hm, R, ?_⟩
  unfold sSeq at q
  cases e1 : f env with
  | nx e => rw [e1] at q; exact fun F' σ' H' s R' => ⟨c, F', e, hm, R', q.mono s⟩
  | rt r e => rw [e1] at q; exact q
  | bk e => rw [e1] at q; exact q
  | ct e => rw [e1] at q; exact q
  | exc n i e => rw [e1] at q; exact q
  | bad => rw [e1] at q; exact q
theorem psx_one (h1 : PSX X k st f) : PSsX X k [st] f := pss_one h1
theorem psx_bad : PSX X k st sBad := impS ps_never fun D σ H ⟨c, F, env, hm, R, q⟩ => q
theorem psx_bads {sts : List Stmt} : PSsX X k sts sBad := impSs pss_never fun D σ H ⟨c, F, env, hm, R, q⟩ => q
theorem psx_pass : PSX X k (.Pass pos) sNil := impS ps_pass fun D σ H ⟨c, F, env, hm, R, q⟩ => q F σ H (Same.refl _) R
theorem psx_break : PSX X k (.Break pos) sBk := impS ps_break fun D σ H ⟨c, F, env, hm, R, q⟩ => q F σ H (Same.refl _) R
theorem psx_continue : PSX X k (.Continue pos) sCt := impS ps_continue fun D σ H ⟨c, F, env, hm, R, q⟩ => q F σ H (Same.refl _) R
theorem psx_if (ht : PTX X k c t) (ha : PSsX X k a f) (hb : PSsX X k b g) : PSX X k (.If c a b pos) (sIf t f g) := impS (ps_if ht ha hb) fun D σ H ⟨c, F, env, hm, R, q⟩ => by
  refine ⟨c, F, env, hm, R, ?_⟩
  unfold sIf at q
  cases e1 : t env with
  | bad => rw [e1] at q; exact q
  | exc n i e => rw [e1] at q; exact fun F' H' s R1 => q F' σ H' s R1
  | ok b e =>
    rw [e1] at q
    intro F' H' s R1
    cases b with
    | true => rw [if_pos rfl]; exact ⟨c, F', e, hm, R1, q.mono s⟩
    | false => rw [if_neg Bool.false_ne_true]; exact ⟨c, F', e, hm, R1, q.mono s⟩
theorem psx_ret (he : PX X k e fe) : PSX X k (.Return (some e) pos) (sRet fe) := impS (ps_ret he) fun D σ H ⟨c, F, env, hm, R, q⟩ => by
  refine ⟨c, F, env, hm, R, ?_⟩
  unfold sRet at q
  cases e1 : fe env with
  | bad => rw [e1] at q; exact q
  | exc n i e => rw [e1] at q; exact fun F' H' s R1 => q F' σ H' s R1
  | ok r e => rw [e1] at q; exact fun F' H' v s R1 z => q F' σ H' v s R1 z
theorem psx_retN : PSX X k (.Return none pos) sRetN := impS ps_retN fun D σ H ⟨c, F, env, hm, R, q⟩ => q F σ H .non (Same.refl _) R .non
theorem psx_expr (he : PX X k e fe) (hs : swapsWith e none pos.line X.env = pure false := by rfl) : PSX X k (.Expr e pos) (sExpr fe) := impS (ps_expr he hs) fun D σ H ⟨c, F, env, hm, R, q⟩ => by
  refine ⟨c, F, env, hm, R, ?_⟩
  unfold sExpr at q
  cases e1 : fe env with
  | bad => rw [e1] at q; exact q
  | exc n i e => rw [e1] at q; exact fun F' H' s R1 => q F' σ H' s R1
  | ok r e => rw [e1] at q; exact fun F' H' v s R1 z => q F' σ H' s R1
end

/-! ### a slot is set -/
section
variable {m : Md} {c : Cn} {F H : Hp} {σ : L2.St} {env : En}
theorem Rl.set_any (R : Rl m c F σ H env) {i : Nat} {v : V} {s : Slot} (hi : ∀ p ∈ c.M, p.1 ≠ i) (hs : SlotR m c F H (some v) s)
    (hd : ∀ d, s = .ow d → ∃ r, v = .ref r ∧ Free c σ env r) : Rl m c F (σ.set i (some v)) H (env.set i s) where
  sub := R.sub
  ext := R.ext
  new := R.new
  keep := R.keep
  len := by rw [List.length_set, List.length_set]; exact R.len
  slot := fun j s' e => by
    rcases set_get e with ⟨rfl, rfl⟩ | ⟨hj, e⟩
    · have hl : j < σ.length := by
        rw [← R.len]
        have := (List.getElem?_eq_some_iff.mp e).1
        rwa [List.length_set] at this
      exact ⟨_, List.getElem?_set_self hl, hs⟩
    · obtain ⟨ov, h1, h2⟩ := R.slot j s' e
      exact ⟨ov, by rw [List.getElem?_set_ne (Ne.symm hj)]; exact h1, h2⟩
  dis := fun j l d e r e1 e2 e3 e4 => by
    rcases set_get e1 with ⟨hj, q1⟩ | ⟨hj, f1⟩
    · rcases set_get e2 with ⟨hl, q2⟩ | ⟨hl, f2⟩
      · exact hj.trans hl.symm
      · obtain ⟨r', hv, hf⟩ := hd d q1.symm
        rw [List.getElem?_set_ne (Ne.symm hl)] at e4
        rcases set_get e3 with ⟨_, q3⟩ | ⟨z, _⟩
        · rw [hv] at q3; cases q3
          exact absurd e4 (hf.1 l e f2)
        · exact absurd hj z
    · rw [List.getElem?_set_ne (Ne.symm hj)] at e3
      rcases set_get e2 with ⟨hl, q2⟩ | ⟨hl, f2⟩
      · obtain ⟨r', hv, hf⟩ := hd e q2.symm
        rcases set_get e4 with ⟨_, q3⟩ | ⟨z, _⟩
        · rw [hv] at q3; cases q3
          exact absurd e3 (hf.1 j d f1)
        · exact absurd hl z
      · rw [List.getElem?_set_ne (Ne.symm hl)] at e4
        exact R.dis j l d e r f1 f2 e3 e4
  mrt := fun p hp => by
    obtain ⟨h1, d, h2⟩ := R.mrt p hp
    exact ⟨by rw [List.getElem?_set_ne (Ne.symm (hi p hp))]; exact h1, d, by rw [List.getElem?_set_ne (Ne.symm (hi p hp))]; exact h2⟩
  pin := fun q hq => by
    obtain ⟨h1, h2, h3⟩ := R.pin q hq
    refine ⟨h1, h2, fun j d e1 e2 => ?_⟩
    rcases set_get e1 with ⟨rfl, q1⟩ | ⟨hj, e1⟩
    · obtain ⟨r', hv, hf⟩ := hd d q1.symm
      rcases set_get e2 with ⟨_, q3⟩ | ⟨z, _⟩
      · rw [hv] at q3; cases q3
        exact hf.2 q hq rfl
      · exact absurd rfl z
    · rw [List.getElem?_set_ne (Ne.symm hj)] at e2
      exact h3 j d e1 e2
theorem Rl.set_fz (R : Rl m c F σ H env) {i : Nat} {v : V} {d : D} (hi : ∀ p ∈ c.M, p.1 ≠ i) (h : Fz m F v d) : Rl m c F (σ.set i (some v)) H (env.set i (.fz d)) :=
  R.set_any hi ⟨v, rfl, h⟩ fun _ e => by cases e
theorem Rl.set_ow (R : Rl m c F σ H env) {i : Nat} {v : V} {d : D} (hi : ∀ p ∈ c.M, p.1 ≠ i) (h : RvR m c F σ H env v (.ow d)) : Rl m c F (σ.set i (some v)) H (env.set i (.ow d)) := by
  obtain ⟨r, e, ow, hf⟩ := h
  exact R.set_any hi ⟨r, by rw [e], ow⟩ fun _ _ => ⟨r, e, hf⟩
end
theorem notM {c : Cn} {ms : List Nat} {i : Nat} (hm : c.M.map (·.1) = ms) (hi : i ∉ ms) : ∀ p ∈ c.M, p.1 ≠ i := fun p hp e => hi (by rw [← hm, ← e]; exact List.mem_map.mpr ⟨p, hp, rfl⟩)
/-- a borrowed list is given away; a new one stays new -/
def slF (ms : List Nat) (f : EX) : EX := fun env => match f env with
  | .ok (.sl i) e => fzR ms (.ok (.sl i) e)
  | r => r
theorem post_slF {m : Md} {k : Kx} {c : Cn} {F : Hp} {σ : L2.St} {Q : VK} {f : EX} {env : En} (hm : c.M.map (·.1) = k.ms) (h : postX m k c F σ Q (slF k.ms f env)) : postX m k c F σ Q (f env) := by
  cases e : f env with
  | ok r e' =>
    cases r with
    | sl i =>
      have q : postX m k c F σ Q (fz k.ms f env) := by
        unfold slF at h
        rw [e] at h
        unfold fz
        rw [e]
        exact h
      have z := post_fz hm q
      rw [e] at z
      exact z
    | fz d => unfold slF at h; rw [e] at h; exact h
    | ow d => unfold slF at h; rw [e] at h; exact h
  | exc n i e' => unfold slF at h; rw [e] at h; exact h
  | bad => unfold slF at h; rw [e] at h; exact h
/-- name = e -/
def sSet (ms : List Nat) (i : Nat) (f : EX) : SX := fun env => match slF ms f env with
  | .ok (.fz d) e => if i ∈ ms then .bad else .nx (e.set i (.fz d))
  | .ok (.ow d) e => if i ∈ ms then .bad else .nx (e.set i (.ow d))
  | .exc n i e => .exc n i e
  | _ => .bad
theorem tS_set {m : Md} {k : Kx} {D : Ends} {σ : L2.St} {H : Hp} {i : Nat} {f : EX} (h : tS m k (sSet k.ms i f) D σ H) : tX m k f σ H (fun x H1 => gName i x σ H1 D.nx) := by
  obtain ⟨c, F, env, hm, R, q⟩ := h
  refine ⟨c, F, env, hm, R, post_slF hm ?_⟩
  unfold sSet at q
  cases e1 : slF k.ms f env with
  | bad => rw [e1] at q; exact q
  | exc n i e => rw [e1] at q; exact fun F' H' s R1 => q F' σ H' s R1
  | ok r e =>
    rw [e1] at q
    cases r with
    | sl j => exact q.elim
    | fz d =>
      dsimp only at q
      split at q
      · exact q.elim
      · exact fun F' H' v s R1 z => q F' _ H' s (R1.set_fz (notM hm (by assumption)) z)
    | ow d =>
      dsimp only at q
      split at q
      · exact q.elim
      · exact fun F' H' v s R1 z => q F' _ H' s (R1.set_ow (notM hm (by assumption)) z)
theorem psx_set {X : Cx} {k : Kx} {pos pos' : Pos} {i : Nat} {x : Str} {e : Expr} {f : EX} (hN : X.N.Nodup) (hi : X.N[i]? = some x) (hx : Loc X.env.scope x) (he : PX X k e f) (hs : swapsWith e (some (.Name x pos')) pos.line X.env = pure false := by rfl)
    (hf : X.fn x = true ∨ X.env.scope.names.lookup x = some .local := by first | exact .inl rfl | exact .inr rfl | assumption) : PSX X k (.Assign [.Name x pos'] e pos) (sSet k.ms i f) :=
  impS (ps_set hN hi hx he hs hf) fun _ _ _ q => tS_set q

/-! ### targets that take frozen trees -/
abbrev GX := D → En → Option En
abbrev GsX := List D → En → Option En
/-- the slots but those at ts are as they were -/
def Chg (ts : List Nat) (σ σ' : L2.St) : Prop := σ'.length = σ.length ∧ ∀ i, i ∉ ts → σ'[i]? = σ[i]?
theorem Chg.trans {ts us : List Nat} {σ σ1 σ2 : L2.St} (h : Chg ts σ σ1) (g : Chg us σ1 σ2) : Chg (ts ++ us) σ σ2 :=
  ⟨g.1.trans h.1, fun i hi => (g.2 i fun z => hi (List.mem_append_right _ z)).trans (h.2 i fun z => hi (List.mem_append_left _ z))⟩
def tG (m : Md) (k : Kx) (ts : List Nat) (g : GX) : TG := fun v σ H Q => ∃ c F env d, c.M.map (·.1) = k.ms ∧ Rl m c F σ H env ∧ Fz m F v d ∧ ∃ e, g d env = some e ∧ ∀ F' σ' H', Sub F F' → Rl m c F' σ' H' e → Chg ts σ σ' → Q σ' H'
def tGs (m : Md) (k : Kx) (ts : List Nat) (g : GsX) : TGs := fun vs σ H Q => ∃ c F env ds, c.M.map (·.1) = k.ms ∧ Rl m c F σ H env ∧ FzA m F vs ds ∧ ∃ e, g ds env = some e ∧ ∀ F' σ' H', Sub F F' → Rl m c F' σ' H' e → Chg ts σ σ' → Q σ' H'
abbrev PGX (X : Cx) (k : Kx) (t : Expr) (ts : List Nat) (g : GX) : Prop := PG X t (tG (mdOf X) k ts g)
abbrev PGsX (X : Cx) (k : Kx) (t : List Expr) (ts : List Nat) (g : GsX) : Prop := PGs X t (tGs (mdOf X) k ts g)
theorem impG {X : Cx} {e : Expr} {t t' : TG} (h : PG X e t) (hi : ∀ v σ H Q, t' v σ H Q → t v σ H Q) : PG X e t' := ⟨fun pins s σ H v u Q I r q => h.run pins s σ H v u Q I r (hi v σ H Q q)⟩
theorem impGs {X : Cx} {e : List Expr} {t t' : TGs} (h : PGs X e t) (hi : ∀ v σ H Q, t' v σ H Q → t v σ H Q) : PGs X e t' := ⟨fun pins s σ H v u Q I r q => h.run pins s σ H v u Q I r (hi v σ H Q q)⟩
def gN (ms : List Nat) (i : Nat) : GX := fun d e => if i ∈ ms then none else some (e.set i (.fz d))
def gsNil : GsX := fun ds e => match ds with
  | [] => some e
  | _ => none
def gsCons (g : GX) (gs : GsX) : GsX := fun ds e => match ds with
  | d :: ds => match g d e with
    | some e1 => gs ds e1
    | none => none
  | [] => none
def gT (n : Nat) (gs : GsX) : GX := fun d e => match d with
  | .tuple ds => if ds.length = n then gs ds e else none
  | _ => none
section
variable {X : Cx} {k : Kx} {pos : Pos}
theorem pgx_name {i : Nat} {x : Str} (hN : X.N.Nodup) (hi : X.N[i]? = some x) (hx : Loc X.env.scope x) (hf : X.fn x = true ∨ X.env.scope.names.lookup x = some .local := by first | exact .inl rfl | exact .inr rfl | assumption) : PGX X k (.Name x pos) [i] (gN k.ms i) :=
  impG (pg_name hN hi hx hf) fun v σ H Q ⟨c, F, env, d, hm, R, z, e, h1, q⟩ => by
    unfold gN at h1
    split at h1
    · cases h1
    · cases h1
      refine q F _ H (Same.refl _) (R.set_fz (notM hm (by assumption)) z) ⟨by rw [List.length_set], fun j hj => ?_⟩
      rw [List.getElem?_set_ne (fun e => hj (by simp [e]))]
theorem pgsx_nil : PGsX X k [] [] gsNil := impGs pgs_nil fun vs σ H Q ⟨c, F, env, ds, hm, R, z, e, h1, q⟩ => by
  unfold gsNil at h1
  split at h1
  · cases h1
    cases z
    exact ⟨rfl, q F σ H (Same.refl _) R ⟨rfl, fun _ _ => rfl⟩⟩
  · cases h1
theorem pgsx_cons {e : Expr} {es : List Expr} {ts us : List Nat} {g : GX} {gs : GsX} (h1 : PGX X k e ts g) (h2 : PGsX X k es us gs)
    (hs : (assignEach (e :: es) X.env).map (·.2) = assign e X.env :: (assignEach es X.env).map (·.2) := by rfl) : PGsX X k (e :: es) (ts ++ us) (gsCons g gs) :=
  impGs (pgs_cons h1 h2 hs) fun vs σ H Q ⟨c, F, env, ds, hm, R, z, e, h1, q⟩ => by
    unfold gsCons at h1
    split at h1
    · rename_i d ds'
      split at h1
      · rename_i e1 he1
        cases z with
        | cons z1 z2 =>
          exact ⟨_, _, rfl, c, F, env, d, hm, R, z1, e1, he1, fun F' σ' H' s R1 c1 => ⟨c, F', e1, ds', hm, R1, z2.mono s, e, h1, fun F2 σ2 H2 s2 R2 c2 => q F2 σ2 H2 (s.trans s2) R2 (c1.trans c2)⟩⟩
      · cases h1
    · cases h1
theorem pgx_tup {es : List Expr} {j : Nat} {ts : List Nat} {gs : GsX} {n : Nat} (hc : X.calm = true) (h : PGsX X k es ts gs)
    (hn : (assignEach es X.env).length = n := by rfl) (hst : (assignEach es X.env).findIdx? (·.1) = none := by rfl) : PGX X k (.Tuple es j pos) ts (gT n gs) :=
  impG (pg_tup hc h hn hst) fun v σ H Q ⟨c, F, env, d, hm, R, z, e, h1, q⟩ => by
    unfold gT at h1
    split at h1
    · rename_i ds
      split at h1
      · rename_i hl
        cases z with
        | tup z1 z2 => exact ⟨_, _, rfl, sqT_mono R.sub z1, by rw [z2.length, hl], c, F, env, ds, hm, R, z2, e, h1, q⟩
      · cases h1
    · cases h1
/-- target = e, by a frozen tree -/
def sAsg (ms : List Nat) (f : EX) (g : GX) : SX := fun env => match fz ms f env with
  | .ok (.fz d) e => match g d e with
    | some e1 => .nx e1
    | none => .bad
  | .exc n i e => .exc n i e
  | _ => .bad
theorem psx_asg {tg e : Expr} {f : EX} {ts : List Nat} {g : GX} (he : PX X k e f) (hg : PGX X k tg ts g) (hs : swapsWithSole [tg] e pos.line X.env = pure false := by rfl) (hw : swappedStores [tg] e X.env = pure none := by rfl)
    (h1 : (assignEach [tg] X.env).map (·.2) = [assign tg X.env] := by rfl) : PSX X k (.Assign [tg] e pos) (sAsg k.ms f g) :=
  impS (ps_asg he.fz hg hs hw h1) fun D σ H ⟨c, F, env, hm, R, q⟩ => by
    refine ⟨c, F, env, hm, R, ?_⟩
    unfold sAsg at q
    cases e1 : T3.fz k.ms f env with
    | bad => rw [e1] at q; exact q
    | exc n i e => rw [e1] at q; exact fun F' H' s R1 => q F' σ H' s R1
    | ok r e =>
      rw [e1] at q
      cases r with
      | sl j => exact q.elim
      | ow d => exact q.elim
      | fz d =>
        dsimp only at q
        split at q
        · rename_i e2 he2
          exact fun F' H' v s R1 z => ⟨c, F', e, d, hm, R1, z, e2, he2, fun F2 σ2 H2 s2 R2 _ => q F2 σ2 H2 (s.trans s2) R2⟩
        · exact q.elim
end

/-! ### while -/
def wl (t : BX) (body : SX) : Nat → SX
  | 0 => fun _ => .bad
  | n + 1 => fun env => match t env with
    | .ok true e => match body e with
      | .nx e2 => wl t body n e2
      | .ct e2 => wl t body n e2
      | .bk e2 => .nx e2
      | r => r
    | .ok false e => .nx e
    | .exc n i e => .exc n i e
    | .bad => .bad
theorem psx_while (n : Nat) {X : Cx} {k : Kx} {pos : Pos} {c : Expr} {body : List Stmt} {t : BX} {f : SX} (hp : PassesOwn (model X.prog X.w) X.A X.env X.xe) (hc : PTX X k c t) (hb : PSsX X k body f) : PSX X k (.While c body [] pos) (wl t f n) :=
  impS (ps_while hp hc hb) fun D σ H ⟨c, F, env, hm, R, q⟩ => by
    refine ⟨fun n σ H => ∃ F' env', Rl (mdOf X) c F' σ H env' ∧ postS (mdOf X) k c F' D (wl t f n env'), ⟨n, F, env, R, q⟩, ?_⟩
    rintro n σ1 H1 ⟨F1, env1, R1, q1⟩
    cases n with
    | zero => exact q1.elim
    | succ n =>
      refine ⟨c, F1, env1, hm, R1, ?_⟩
      unfold wl at q1
      cases e1 : t env1 with
      | bad => rw [e1] at q1; exact q1
      | exc n i e => rw [e1] at q1; exact fun F' H' s R2 => q1 F' σ1 H' s R2
      | ok b e =>
        rw [e1] at q1
        intro F' H' s R2
        cases b with
        | false => rw [if_neg Bool.false_ne_true]; exact q1 F' σ1 H' s R2
        | true =>
          rw [if_pos rfl]
          refine ⟨fun σ H => ∃ F' env', Rl (mdOf X) c F' σ H env' ∧ postS (mdOf X) k c F' D (wl t f n env'), fun σ' H' w' => ⟨n, Nat.lt_succ_self n, w'⟩, c, F', e, hm, R2, ?_⟩
          dsimp only at q1
          cases e2 : f e with
          | nx e2' => rw [e2] at q1; exact fun F2 σ2 H2 s2 R3 => ⟨F2, e2', R3, q1.mono (s.trans s2)⟩
          | ct e2' => rw [e2] at q1; exact fun F2 σ2 H2 s2 R3 => ⟨F2, e2', R3, q1.mono (s.trans s2)⟩
          | bk e2' => rw [e2] at q1; exact fun F2 σ2 H2 s2 R3 => q1 F2 σ2 H2 (s.trans s2) R3
          | rt r e2' => rw [e2] at q1; exact fun F2 σ2 H2 v s2 R3 z => q1 F2 σ2 H2 v (s.trans s2) R3 z
          | exc n i e2' => rw [e2] at q1; exact fun F2 σ2 H2 s2 R3 => q1 F2 σ2 H2 (s.trans s2) R3
          | bad => rw [e2] at q1; exact q1

/-! ### for -/
/-- what is walked: at turn i it hands out the i-th tree, frozen or (a tuple) new -/
def Yld (m : Md) (F H : Hp) (x : V) (H' : Hp) (d : D) : Prop :=
  (H' = H ∧ Fz m F x d) ∨ ∃ p xs ds, x = .ref p ∧ H p = none ∧ H' = upd H p (.tup xs) ∧ FzA m F xs ds ∧ d = .tuple ds
structure ItOk (m : Md) (F : Hp) (J : It) (ds : List D) : Prop where
  go : ∀ i H, Sub F H → i < ds.length → J.go i H
  stop : ∀ i H, Sub F H → ds.length ≤ i → J.stop i H
  yld : ∀ i H x H' d, Sub F H → ds[i]? = some d → J.yld i H x H' → Yld m F H x H' d
theorem Yld.frozen {m : Md} {c : Cn} {F F0 H H' : Hp} {σ : L2.St} {env : En} {x : V} {d : D} (R : Rl m c F σ H env) (s : Sub F0 F) (h : Yld m F0 H x H' d) : ∃ F', Sub F F' ∧ Rl m c F' σ H' env ∧ Fz m F' x d := by
  rcases h with ⟨rfl, h⟩ | ⟨p, xs, ds, rfl, hp, rfl, h, rfl⟩
  · exact ⟨F, Same.refl _, R, h.mono s⟩
  · have nf := R.Fnone hp
    exact ⟨upd F p (.tup xs), Same.fresh nf, (R.laid hp).freeze upd_same (R.H0none hp) (R.free_of_none hp) nf, .tup (SqT.of upd_same) ((h.mono s).mono (Same.fresh nf))⟩
abbrev IX := En → R (List D)
def postI (m : Md) (k : Kx) (c : Cn) (F : Hp) (σ : L2.St) (Q : It → Hp → Prop) : R (List D) → Prop
  | .ok ds e => ∀ F' H' J, Sub F F' → Rl m c F' σ H' e → ItOk m F' J ds → Q J H'
  | .exc n i e => ∀ F' H', Sub F F' → Rl m c F' σ H' e → k.W n i σ H'
  | .bad => False
def tI (m : Md) (k : Kx) (f : IX) : TI := fun σ H Q => ∃ c F env, c.M.map (·.1) = k.ms ∧ Rl m c F σ H env ∧ postI m k c F σ Q (f env)
abbrev PIX (X : Cx) (k : Kx) (tg iter : Expr) (f : IX) : Prop := PI X tg iter (tI (mdOf X) k f)
theorem impI {X : Cx} {tg e : Expr} {t t' : TI} (h : PI X tg e t) (hi : ∀ σ H Q, t' σ H Q → t σ H Q) : PI X tg e t' := ⟨fun pins s σ H Q I q => h.run pins s σ H Q I (hi σ H Q q)⟩
def fl (g : GX) (body : SX) : List D → SX
  | [] => fun env => .nx env
  | d :: ds => fun env => match g d env with
    | none => .bad
    | some e => match body e with
      | .nx e2 => fl g body ds e2
      | .ct e2 => fl g body ds e2
      | .bk e2 => .nx e2
      | r => r
def sFor (f : IX) (g : GX) (body : SX) : SX := fun env => match f env with
  | .ok ds e => fl g body ds e
  | .exc n i e => .exc n i e
  | .bad => .bad
theorem psx_for {X : Cx} {k : Kx} {pos : Pos} {tg iter : Expr} {body : List Stmt} {f : IX} {ts : List Nat} {g : GX} {b : SX} (hp : PassesOwn (model X.prog X.w) X.A X.env X.xe) (hc : X.calm = true) (hi : PIX X k tg iter f) (hg : PGX X k tg ts g) (hb : PSsX X k body b)
    (hs : ∀ x, foldedSetIterable iter X.env x = pure x := by intro _; rfl) : PSX X k (.For tg iter body [] pos) (sFor f g b) :=
  impS (ps_for hp hc hi hg hb hs) fun D σ H ⟨c, F, env, hm, R, q⟩ => by
    refine ⟨c, F, env, hm, R, ?_⟩
    unfold sFor at q
    cases e1 : f env with
    | bad => rw [e1] at q; exact q
    | exc n i e => rw [e1] at q; exact fun F' H' s R1 => q F' σ H' s R1
    | ok ds e =>
      rw [e1] at q
      intro F' H' J s R1 it
      refine ⟨fun i n σ H => n = ds.length - i ∧ i ≤ ds.length ∧ ∃ F2 env2, Sub F' F2 ∧ Rl (mdOf X) c F2 σ H env2 ∧ postS (mdOf X) k c F2 D (fl g b (ds.drop i) env2), ⟨ds.length, rfl, Nat.zero_le _, F', e, Same.refl _, R1, q.mono s⟩, ?_⟩
      rintro i n σ1 H1 ⟨rfl, hle, F2, env2, s2, R2, q2⟩
      by_cases hi : i < ds.length
      · refine .inr ⟨it.go i H1 (s2.trans R2.sub) hi, fun σ H => i + 1 ≤ ds.length ∧ ∃ F3 env3, Sub F' F3 ∧ Rl (mdOf X) c F3 σ H env3 ∧ postS (mdOf X) k c F3 D (fl g b (ds.drop (i + 1)) env3), fun σ' H' ⟨h1, h2⟩ => ⟨ds.length - (i + 1), by omega, rfl, h1, h2⟩, fun x H3 y => ?_⟩
        have hd : ds[i]? = some ds[i] := List.getElem?_eq_getElem hi
        obtain ⟨F3, s3, R3, z3⟩ := (it.yld i H1 x H3 _ (s2.trans R2.sub) hd y).frozen R2 s2
        rw [List.drop_eq_getElem_cons hi] at q2
        unfold fl at q2
        cases e2 : g ds[i] env2 with
        | none => rw [e2] at q2; exact q2.elim
        | some e3 =>
          rw [e2] at q2
          refine ⟨c, F3, env2, ds[i], hm, R3, z3, e3, e2, fun F4 σ4 H4 s4 R4 _ => ⟨c, F4, e3, hm, R4, ?_⟩⟩
          dsimp only at q2
          cases e4 : b e3 with
          | nx e5 => rw [e4] at q2; exact fun F5 σ5 H5 s5 R5 => ⟨hi, F5, e5, ((s2.trans s3).trans s4).trans s5, R5, q2.mono ((s3.trans s4).trans s5)⟩
          | ct e5 => rw [e4] at q2; exact fun F5 σ5 H5 s5 R5 => ⟨hi, F5, e5, ((s2.trans s3).trans s4).trans s5, R5, q2.mono ((s3.trans s4).trans s5)⟩
          | bk e5 => rw [e4] at q2; exact fun F5 σ5 H5 s5 R5 => q2 F5 σ5 H5 ((s3.trans s4).trans s5) R5
          | rt r e5 => rw [e4] at q2; exact fun F5 σ5 H5 v s5 R5 z => q2 F5 σ5 H5 v ((s3.trans s4).trans s5) R5 z
          | exc n i e5 => rw [e4] at q2; exact fun F5 σ5 H5 s5 R5 => q2 F5 σ5 H5 ((s3.trans s4).trans s5) R5
          | bad => rw [e4] at q2; exact q2
      · have e : ds.length ≤ i := by omega
        refine .inl ⟨it.stop i H1 (s2.trans R2.sub) e, ?_⟩
        rw [List.drop_eq_nil_of_le e] at q2
        exact q2 F2 σ1 H1 (Same.refl _) R2
end T3
end

section
set_option autoImplicit false
/-! THE TREE LAYER, part E: what a def promises, calls, changes of an owned list or dict. -/
namespace T3
open PySem PySem.Spec PyProof.Rows L2

section
variable {m : Md} {c : Cn} {F F2 H H2 : Hp} {σ : L2.St} {env : En}
/-- behind a call: what stood stands, but for r, which no slot owns -/
theorem Rl.call (R : Rl m c F σ H env) (s : Sub F F2) (s2 : Sub F2 H2) (new : ∀ a u, F2 a = some u → F a = some u ∨ H a = none) (ro : Option Addr) (keep : ∀ a u, H a = some u → ro ≠ some a → H2 a = some u)
    (hr : ∀ r, ro = some r → Free c σ env r ∧ c.H0 r = none) : Rl m c F2 σ H2 env where
  sub := s2
  ext := R.ext.trans s
  new := fun a u e => by
    rcases new a u e with h | h
    · exact R.new a u h
    · exact .inr (R.H0none h)
  keep := fun a u e hm => keep a u (R.keep a u e hm) fun q => by
    rw [(hr a q).2] at e; cases e
  len := R.len
  slot := fun i sl e => by
    obtain ⟨ov, h1, h2⟩ := R.slot i sl e
    refine ⟨ov, h1, ?_⟩
    cases sl with
    | non => trivial
    | fz d => obtain ⟨v, h3, h4⟩ := h2; exact ⟨v, h3, h4.mono s⟩
    | rl ns => obtain ⟨v, h3, h4⟩ := h2; exact ⟨v, h3, sqL_mono s h4⟩
    | ow d =>
      obtain ⟨r, h3, h4⟩ := h2
      obtain ⟨o, ho⟩ := h4.at_.has
      refine ⟨r, h3, ?_, h4.nw, h4.at_.mono s fun o e' => keep r o e' fun q => (hr r q).1.1 i d e (by rw [h1, h3])⟩
      cases q : F2 r with
      | none => rfl
      | some u =>
        rcases new r u q with h | h
        · rw [h4.nf] at h; cases h
        · rw [ho] at h; cases h
  dis := R.dis
  mrt := R.mrt
  pin := fun q hq => by
    obtain ⟨h1, h2, h3⟩ := R.pin q hq
    refine ⟨keep _ _ h1 fun z => (hr q.1 z).1.2 q hq rfl, ?_, h3⟩
    cases z : F2 q.1 with
    | none => rfl
    | some u =>
      rcases new _ u z with h | h
      · rw [h2] at h; cases h
      · rw [h1] at h; cases h
/-- .. where r is what the j-th slot owns -/
theorem Rl.call_slot (R : Rl m c F σ H env) {j : Nat} {d d' : D} {r : Addr} (hj : env[j]? = some (.ow d)) (hσ : σ[j]? = some (some (.ref r))) (s : Sub F F2) (s2 : Sub F2 H2) (new : ∀ a u, F2 a = some u → F a = some u ∨ H a = none)
    (keep : ∀ a u, H a = some u → a ≠ r → H2 a = some u) (nf : F2 r = none) (ow : OwnAt m F2 H2 r d') : Rl m c F2 σ H2 (env.set j (.ow d')) where
  sub := s2
  ext := R.ext.trans s
  new := fun a u e => by
    rcases new a u e with h | h
    · exact R.new a u h
    · exact .inr (R.H0none h)
  keep := fun a u e hm => keep a u (R.keep a u e hm) fun q => by
    subst q
    obtain ⟨ov, h1, r', h2, h3⟩ := R.slot j _ hj
    rw [hσ] at h1; cases h1; cases h2
    rcases h3.nw with z | z
    · rw [e] at z; cases z
    · exact hm z
  len := by rw [List.length_set]; exact R.len
  slot := fun i sl e => by
    rcases set_get e with ⟨rfl, rfl⟩ | ⟨hi, e⟩
    · obtain ⟨ov, h1, r', h2, h3⟩ := R.slot i _ hj
      rw [hσ] at h1; cases h1; cases h2
      exact ⟨_, hσ, _, rfl, nf, h3.nw, ow⟩
    · obtain ⟨ov, h1, h2⟩ := R.slot i sl e
      refine ⟨ov, h1, ?_⟩
      cases sl with
      | non => trivial
      | fz d => obtain ⟨v, h3, h4⟩ := h2; exact ⟨v, h3, h4.mono s⟩
      | rl ns => obtain ⟨v, h3, h4⟩ := h2; exact ⟨v, h3, sqL_mono s h4⟩
      | ow d =>
        obtain ⟨r', h3, h4⟩ := h2
        obtain ⟨o, ho⟩ := h4.at_.has
        have hne : r' ≠ r := fun q => by subst q; exact hi (R.dis i j _ _ r' e hj (by rw [h1, h3]) hσ)
        refine ⟨r', h3, ?_, h4.nw, h4.at_.mono s fun o e' => keep r' o e' hne⟩
        cases q : F2 r' with
        | none => rfl
        | some u =>
          rcases new r' u q with h | h
          · rw [h4.nf] at h; cases h
          · rw [ho] at h; cases h
  dis := fun i l d e r' e1 e2 e3 e4 => by
    have up : ∀ (i : Nat) (d : D), (env.set j (.ow d'))[i]? = some (.ow d) → ∃ d2, env[i]? = some (.ow d2) := fun i d e => by
      rcases set_get e with ⟨rfl, _⟩ | ⟨_, e⟩
      · exact ⟨_, hj⟩
      · exact ⟨_, e⟩
    obtain ⟨_, f1⟩ := up _ _ e1
    obtain ⟨_, f2⟩ := up _ _ e2
    exact R.dis i l _ _ r' f1 f2 e3 e4
  mrt := fun p hp => by
    obtain ⟨h1, d2, h2⟩ := R.mrt p hp
    refine ⟨h1, ?_⟩
    by_cases q : p.1 = j
    · rw [q]
      exact ⟨d', List.getElem?_set_self (List.getElem?_eq_some_iff.mp hj).1⟩
    · exact ⟨d2, by rw [List.getElem?_set_ne (fun z => q z.symm)]; exact h2⟩
  pin := fun q hq => by
    obtain ⟨h1, h2, h3⟩ := R.pin q hq
    have hne : q.1 ≠ r := fun z => h3 j d hj (by rw [z]; exact hσ)
    refine ⟨keep _ _ h1 hne, ?_, fun i d2 e => ?_⟩
    · cases z : F2 q.1 with
      | none => rfl
      | some u =>
        rcases new _ u z with h | h
        · rw [h2] at h; cases h
        · rw [h1] at h; cases h
    · rcases set_get e with ⟨rfl, _⟩ | ⟨_, e⟩
      · exact h3 i _ hj
      · exact h3 i _ e
end

/-! ### what a def promises -/
inductive FR where
  | ok (d : D) (o : Option D)
  | exc (n : Str) (i : Int)
  | bad
/-- the arguments: frozen trees; the last one, if ro tells where, an owned list or dict that may be changed -/
def ArgR (m : Md) (F H : Hp) (ro : Option Addr) (vs : List V) (ds : List D) : Prop := match ro with
  | none => FzA m F vs ds
  | some r => ∃ vs' ds' d, vs = vs' ++ [.ref r] ∧ ds = ds' ++ [d] ∧ FzA m F vs' ds' ∧ F r = none ∧ OwnAt m F H r d
def ResR (m : Md) (F' H H' : Hp) (fresh : Bool) (v : V) (d : D) : Prop := if fresh = true then ∃ r, v = .ref r ∧ F' r = none ∧ H r = none ∧ OwnAt m F' H' r d else Fz m F' v d
def postF (m : Md) (fresh : Bool) (F H : Hp) (ro : Option Addr) (Q : VK) (E : Str → Int → Hp → Prop) : FR → Prop
  | .ok d o => ∀ v F' H', Sub F F' → Sub F' H' → (∀ a u, F' a = some u → F a = some u ∨ H a = none) → (∀ a u, H a = some u → ro ≠ some a → H' a = some u) →
      (∀ r, ro = some r → ∃ d', o = some d' ∧ F' r = none ∧ OwnAt m F' H' r d') → ResR m F' H H' fresh v d → Q v H'
  | .exc n i => ro = none ∧ ∀ H', Sub H H' → E n i H'
  | .bad => False
abbrev EW := Str → Int → XK → Hp → Prop
def spT (m : Md) (io fresh : Bool) (ew : EW) (fn : List D → FR) : Sp := fun vs H Q E => ∃ F ds ro, ro.isSome = io ∧ Sub F H ∧ ArgR m F H ro vs ds ∧ postF m fresh F H ro Q (fun n i H' => ew n i E H') (fn ds)

def outF (io : Bool) (p : Nat) (e : En) (d : D) : FR := if io = true then match e[p]? with
    | some (.ow o) => .ok d (some o)
    | _ => .bad
  else .ok d none
def finish (io fresh : Bool) (p : Nat) : O → FR
  | .nx e => if fresh = true then .bad else outF io p e .none
  | .rt (.fz d) e => if fresh = true then .bad else outF io p e d
  | .rt (.ow d) e => outF io p e d
  | .rt (.sl i) e => match e[i]? with
    | some (.ow d) => if io = true ∧ i = p then .bad else outF io p e d
    | _ => .bad
  | .exc n i _ => if io = true then .bad else .exc n i
  | _ => .bad
def mkE (io : Bool) : List D → En
  | [] => []
  | [d] => if io = true then [.ow d] else [.fz d]
  | d :: ds => .fz d :: mkE io ds
/-- a def of np parameters, n slots in all -/
def mkFn (np n : Nat) (io fresh : Bool) (body : SX) : List D → FR := fun ds =>
  if ds.length = np ∧ (io = true → ds ≠ []) then finish io fresh (np - 1) (body (mkE io ds ++ List.replicate (n - np) .non)) else .bad
theorem mkE_false : ∀ ds : List D, mkE false ds = ds.map .fz
  | [] => rfl
  | [d] => rfl
  | d :: e :: ds => by rw [mkE, mkE_false (e :: ds)] <;> simp
theorem mkE_true : ∀ (ds : List D) (d : D), mkE true (ds ++ [d]) = ds.map .fz ++ [.ow d]
  | [], d => rfl
  | [e], d => rfl
  | e :: f :: ds, d => by
    show mkE true (e :: f :: (ds ++ [d])) = _
    rw [mkE]
    · have := mkE_true (f :: ds) d
      rw [List.cons_append] at this
      rw [this] <;> rfl
    · simp

theorem rep_non {n i : Nat} {s : Slot} (h : (List.replicate n Slot.non)[i]? = some s) : s = .non := by
  rw [List.getElem?_replicate] at h
  split at h
  · exact (Option.some.inj h).symm
  · cases h
theorem start_get {N : List Str} {vs : List V} {i : Nat} {v : V} (h : vs[i]? = some v) : (L2.start N vs)[i]? = some (some v) := by
  unfold L2.start
  have hl := (List.getElem?_eq_some_iff.mp h).1
  rw [List.getElem?_append_left (by rw [List.length_map]; exact hl), List.getElem?_map, h]
  rfl
theorem start_len {N : List Str} {vs : List V} (h : vs.length ≤ N.length) : (L2.start N vs).length = N.length := by
  unfold L2.start
  rw [List.length_append, List.length_map, List.length_replicate]
  omega
def mOf (p : Nat) : Option Addr → List (Nat × Addr)
  | none => []
  | some r => [(p, r)]
/-- the state at a def's entry -/
theorem Rl.start {m : Md} {F H : Hp} {N : List Str} {vs : List V} {ds : List D} {ro : Option Addr} (s : Sub F H) (h : ArgR m F H ro vs ds) (hl : vs.length ≤ N.length) :
    Rl m ⟨H, F, mOf (ds.length - 1) ro, []⟩ F (L2.start N vs) H (mkE ro.isSome ds ++ List.replicate (N.length - ds.length) .non) := by
  cases ro with
  | none =>
    have h : FzA m F vs ds := h
    show Rl m ⟨H, F, [], []⟩ F (L2.start N vs) H (mkE false ds ++ List.replicate (N.length - ds.length) .non)
    have hlen := h.length
    have sl : ∀ (i : Nat) s, (mkE false ds ++ List.replicate (N.length - ds.length) Slot.non)[i]? = some s → (∃ d, s = .fz d ∧ ds[i]? = some d) ∨ s = .non := fun i s e => by
      rw [mkE_false] at e
      by_cases hi : i < (ds.map Slot.fz).length
      · rw [List.getElem?_append_left hi, List.getElem?_map] at e
        cases q : ds[i]? with
        | none => rw [q] at e; cases e
        | some d => rw [q] at e; cases e; exact .inl ⟨d, rfl, rfl⟩
      · rw [List.getElem?_append_right (by omega)] at e
        exact .inr (rep_non e)
    have nos : ∀ (i : Nat) (d : D), (mkE false ds ++ List.replicate (N.length - ds.length) Slot.non)[i]? ≠ some (.ow d) := fun i d e => by
      rcases sl i _ e with ⟨_, q, _⟩ | q <;> cases q
    exact
      { sub := s, ext := Same.refl _, new := fun a u e => .inl e, keep := fun a u e _ => e
        len := by rw [start_len hl, List.length_append, mkE_false, List.length_map, List.length_replicate]; omega
        slot := fun i s e => by
          rcases sl i s e with ⟨d, rfl, hd⟩ | rfl
          · obtain ⟨v, hv, z⟩ := h.get hd
            exact ⟨_, start_get hv, v, rfl, z⟩
          · have hi : i < (L2.start N vs).length := by
              rw [start_len hl]
              have := (List.getElem?_eq_some_iff.mp e).1
              rw [List.length_append, mkE_false, List.length_map, List.length_replicate] at this
              omega
            exact ⟨_, List.getElem?_eq_getElem hi, trivial⟩
        dis := fun i j d e r e1 => (nos _ _ e1).elim
        mrt := fun p hp => (List.not_mem_nil hp).elim
        pin := fun p hp => (List.not_mem_nil hp).elim }
  | some r =>
    obtain ⟨vs', ds', d, rfl, rfl, h, nf, ow⟩ := h
    show Rl m ⟨H, F, [((ds' ++ [d]).length - 1, r)], []⟩ F (L2.start N (vs' ++ [.ref r])) H (mkE true (ds' ++ [d]) ++ List.replicate (N.length - (ds' ++ [d]).length) .non)
    have hlen := h.length
    have hp : (ds' ++ [d]).length - 1 = ds'.length := by simp
    rw [hp, mkE_true]
    have hl' : vs'.length + 1 ≤ N.length := by simpa using hl
    have sl : ∀ (i : Nat) s, (ds'.map Slot.fz ++ [.ow d] ++ List.replicate (N.length - (ds' ++ [d]).length) Slot.non)[i]? = some s → (∃ d, s = .fz d ∧ ds'[i]? = some d) ∨ (s = .ow d ∧ i = ds'.length) ∨ s = .non := fun i s e => by
      by_cases hi : i < (ds'.map Slot.fz ++ [Slot.ow d]).length
      · rw [List.getElem?_append_left hi] at e
        by_cases hj : i < (ds'.map Slot.fz).length
        · rw [List.getElem?_append_left hj, List.getElem?_map] at e
          cases q : ds'[i]? with
          | none => rw [q] at e; cases e
          | some d => rw [q] at e; cases e; exact .inl ⟨d, rfl, rfl⟩
        · rw [List.getElem?_append_right (by omega)] at e
          have : i = ds'.length := by simp at hi hj; omega
          subst this
          simp at e
          exact .inr (.inl ⟨e.symm, rfl⟩)
      · rw [List.getElem?_append_right (by omega)] at e
        exact .inr (.inr (rep_non e))
    have nos : ∀ (i : Nat) (e : D), (ds'.map Slot.fz ++ [.ow d] ++ List.replicate (N.length - (ds' ++ [d]).length) Slot.non)[i]? = some (.ow e) → i = ds'.length := fun i e q => by
      rcases sl i _ q with ⟨_, q, _⟩ | ⟨_, q⟩ | q
      · cases q
      · exact q
      · cases q
    have hr : (L2.start N (vs' ++ [.ref r]))[ds'.length]? = some (some (.ref r)) := start_get (by rw [← hlen]; simp)
    exact
      { sub := s, ext := Same.refl _, new := fun a u e => .inl e, keep := fun a u e _ => e
        len := by rw [start_len hl]; simp; omega
        slot := fun i s e => by
          rcases sl i s e with ⟨d, rfl, hd⟩ | ⟨rfl, rfl⟩ | rfl
          · obtain ⟨v, hv, z⟩ := h.get hd
            have hv2 : (vs' ++ [V.ref r])[i]? = some v := by rw [List.getElem?_append_left (List.getElem?_eq_some_iff.mp hv).1]; exact hv
            exact ⟨_, start_get hv2, v, rfl, z⟩
          · exact ⟨_, hr, r, rfl, nf, .inr (by simp), ow⟩
          · have hi : i < (L2.start N (vs' ++ [.ref r])).length := by
              rw [start_len hl]
              have := (List.getElem?_eq_some_iff.mp e).1
              simp at this
              omega
            exact ⟨_, List.getElem?_eq_getElem hi, trivial⟩
        dis := fun i j d e r e1 e2 _ _ => (nos _ _ e1).trans (nos _ _ e2).symm
        mrt := fun p hp => by
          rw [List.mem_singleton] at hp
          subst hp
          exact ⟨hr, d, by simp⟩
        pin := fun p hp => (List.not_mem_nil hp).elim }

/-- what a def's body owes, told by its end -/
theorem post_finish {m : Md} {k : Kx} {F H : Hp} {ro : Option Addr} {Q : VK} {E : Str → Int → Hp → Prop} {fresh : Bool} {p : Nat} {o : O}
    (hW : ∀ n i σ H', E n i H' → k.W n i σ H') (h : postF m fresh F H ro Q E (finish ro.isSome fresh p o)) :
    postS m k ⟨H, F, mOf p ro, []⟩ F { nx := fun _ H' => Q .non H', rt := Q } o := by
  have out : ∀ {d : D} {e : En} {F' H' : Hp} {σ' : L2.St} {v : V}, Sub F F' → Rl m ⟨H, F, mOf p ro, []⟩ F' σ' H' e → postF m fresh F H ro Q E (outF ro.isSome p e d) → ResR m F' H H' fresh v d → Q v H' := by
    intro d e F' H' σ' v s R q z
    unfold outF at q
    cases ro with
    | none =>
      exact q v F' H' s R.sub R.new (fun a u e' _ => R.keep a u e' (by simp [mOf])) (fun r e' => by cases e') z
    | some r =>
      rw [if_pos (show (some r).isSome = true from rfl)] at q
      split at q
      · rename_i o ho
        refine q v F' H' s R.sub R.new (fun a u e' hne => R.keep a u e' ?_) (fun r' e' => ?_) z
        · intro hm
          have : a = r := by simpa [mOf] using hm
          exact hne (by rw [this])
        · cases e'
          obtain ⟨h1, d2, h2⟩ := R.mrt (p, r) (by simp [mOf])
          rw [ho] at h2; cases h2
          obtain ⟨ov, h3, r2, h4, h5⟩ := R.slot p _ ho
          rw [h1] at h3; cases h3; cases h4
          exact ⟨_, rfl, h5.nf, h5.at_⟩
      · exact q.elim
  have nw : ∀ {F' H' : Hp} {σ' : L2.St} {e : En} {r' : Addr}, Rl m ⟨H, F, mOf p ro, []⟩ F' σ' H' e → (H r' = none ∨ r' ∈ (mOf p ro).map (·.2)) → (∀ r, ro = some r → r' ≠ r) → H r' = none := by
    intro F' H' σ' e r' R hn hne
    rcases hn with hn | hn
    · exact hn
    · cases ro with
      | none => simp [mOf] at hn
      | some r => exact absurd (by simpa [mOf] using hn) (hne r rfl)
  cases o with
  | nx e =>
    intro F' σ' H' s R
    dsimp only [finish] at h
    split at h
    · exact h.elim
    · rename_i hf
      exact out s R h (by unfold ResR; rw [if_neg hf]; exact .non)
  | bk e => exact h.elim
  | ct e => exact h.elim
  | bad => exact h.elim
  | exc n i e =>
    intro F' σ' H' s R
    dsimp only [finish] at h
    split at h
    · exact h.elim
    · rename_i hf
      have e0 := h.1
      subst e0
      exact hW _ _ _ _ (h.2 H' fun a u e' => R.keep a u e' (by simp [mOf]))
  | rt r e =>
    intro F' σ' H' v s R z
    cases r with
    | fz d =>
      dsimp only [finish] at h
      split at h
      · exact h.elim
      · rename_i hf
        exact out s R h (by unfold ResR; rw [if_neg hf]; exact z)
    | ow d =>
      have h : postF m fresh F H ro Q E (outF ro.isSome p e d) := h
      by_cases hf : fresh = true
      · obtain ⟨r, ev, ow, free⟩ := z
        have hn : H r = none := nw R ow.nw fun r2 e2 e3 => by
          subst e2
          obtain ⟨h1, d2, h2⟩ := R.mrt (p, r2) (by simp [mOf])
          exact free.1 _ _ h2 (by rw [h1, e3])
        exact out s R h (by unfold ResR; rw [if_pos hf]; exact ⟨r, ev, ow.nf, hn, ow.at_⟩)
      · obtain ⟨F2, s2, R2, z2⟩ := R.freeze_new z
        exact out (s.trans s2) R2 h (by unfold ResR; rw [if_neg hf]; exact z2)
    | sl j =>
      dsimp only [finish] at h
      split at h
      · rename_i d hd
        split at h
        · exact h.elim
        · rename_i hj
          obtain ⟨z1, _⟩ := z
          obtain ⟨ov, h1, r, h2, h3⟩ := R.slot j _ hd
          rw [z1] at h1; cases h1; cases h2
          have hne : ∀ p2 ∈ mOf p ro, p2.1 ≠ j := fun p2 hp2 e2 => by
            cases ro with
            | none => simp [mOf] at hp2
            | some r2 =>
              have : p2 = (p, r2) := by simpa [mOf] using hp2
              subst this
              exact hj ⟨rfl, e2.symm⟩
          by_cases hf : fresh = true
          · have hn : H r = none := nw R h3.nw fun r2 e2 e3 => by
              subst e2
              obtain ⟨q1, d2, q2⟩ := R.mrt (p, r2) (by simp [mOf])
              exact hne (p, r2) (by simp [mOf]) (R.dis _ _ _ _ r2 q2 hd q1 (by rw [z1, e3]))
            exact out s R h (by unfold ResR; rw [if_pos hf]; exact ⟨r, rfl, h3.nf, hn, h3.at_⟩)
          · obtain ⟨F2, s2, R2, v2, e2, z2⟩ := R.freeze_slot hd hne
            rw [z1] at e2; cases e2
            refine out (d := d) (e := e.set j (.fz d)) (s.trans s2) R2 ?_ (by unfold ResR; rw [if_neg hf]; exact z2)
            unfold outF at h ⊢
            cases ro with
            | none => exact h
            | some r2 =>
              rw [if_pos (show (some r2).isSome = true from rfl)] at h ⊢
              rw [List.getElem?_set_ne (fun z => hj ⟨rfl, z⟩)]
              exact h
      · exact h.elim
end T3
end

section
set_option autoImplicit false
/-! THE TREE LAYER, part F: defs, calls, methods that change an owned list. -/
namespace T3
open PySem PySem.Spec PyProof.Rows L2

theorem spT_len {m : Md} {io fresh : Bool} {ew : EW} {np n : Nat} {body : SX} {vs : List V} {H : Hp} {Q : VK} {E : XK} (h : spT m io fresh ew (mkFn np n io fresh body) vs H Q E) : vs.length = np := by
  obtain ⟨F, ds, ro, e, s, a, p⟩ := h
  unfold mkFn at p
  split at p
  · rename_i hl
    rw [← hl.1]
    cases ro with
    | none => exact FzA.length a
    | some r =>
      obtain ⟨vs', ds', d, rfl, rfl, h, _⟩ := a
      have := h.length
      simp [this]
  · exact p.elim
theorem len_of_scope {N ps : List Str} {sc : Scope} (S : FnScope N ps sc) : ps.length ≤ N.length := by
  have h := congrArg List.length S.pre
  rw [List.length_take] at h
  omega
def msOf (io : Bool) (np : Nat) : List Nat := if io = true then [np - 1] else []
theorem fn_ok {P : Program} {w : World} {K : PySem.W.Frag} {mg : Str → Option Value} {base : Heap} {x qual : Str} {st : Stmt} {f : Addr} {fd : FuncData} {N ps : List Str} {k : Nat} (F : Fun K x qual st f fd) (S : FnScope N ps (defScope st)) (io fresh : Bool) (ew : EW) (body : SX)
    (hb : ∀ (cdv : Value) (A : Around) (outer : List Env) (s : Shared) (H : Hp) (E : XK), Room k (A.deeper (envOfC qual (defScope st) s.heap.objs.size f cdv)) →
      PSsX (cxOf (L2.CX P w) P w K mg base N qual (defScope st) f cdv A outer s H E) ⟨fun n i _ H' => ew n i E H', msOf io ps.length⟩ (defBody st) body) :
    FnOk P w K mg base (L2.CX P w) (k + 1) f fd ps (spT ⟨P, w, K⟩ io fresh ew (mkFn ps.length N.length io fresh body)) := by
  refine F.okX S (fun vs H Q E h => spT_len h) fun cdv A outer s H vs Q E hr hsp => ⟨_, hb cdv A outer s H E hr, ?_⟩
  have hlen := spT_len hsp
  obtain ⟨F0, ds, ro, rfl, s0, a, p⟩ := hsp
  unfold mkFn at p
  split at p
  · rename_i hl
    have hN := len_of_scope S
    have R := Rl.start (N := N) s0 a (by omega)
    refine ⟨_, _, _, ?_, R, ?_⟩
    · cases ro with
      | none => rfl
      | some r => show [ds.length - 1] = msOf true ps.length; rw [hl.1]; rfl
    · rw [hl.1]
      exact post_finish (fun n i σ H' h => h) p
  · exact p.elim

/-! ### calls -/
def callF (fresh : Bool) (fn : List D → FR) (g : AX) : EX := fun env => match g env with
  | .ok rs e => match allFz rs with
    | some ds => match fn ds with
      | .ok d _ => .ok (if fresh = true then .ow d else .fz d) e
      | _ => .bad
    | none => .bad
  | .exc n i e => .exc n i e
  | .bad => .bad
def splitL : List Rv → Option (List D × Rv)
  | [] => none
  | [r] => some ([], r)
  | .fz d :: rs => match splitL rs with
    | some (ds, r) => some (d :: ds, r)
    | none => none
  | _ => none
def callIo (fresh : Bool) (fn : List D → FR) (g : AX) : EX := fun env => match g env with
  | .ok rs e => match splitL rs with
    | some (ds, .sl j) => match e[j]? with
      | some (.ow d) => match fn (ds ++ [d]) with
        | .ok x (some d') => .ok (if fresh = true then .ow x else .fz x) (e.set j (.ow d'))
        | _ => .bad
      | _ => .bad
    | some (ds, .ow d) => match fn (ds ++ [d]) with
      | .ok x _ => .ok (if fresh = true then .ow x else .fz x) e
      | _ => .bad
    | _ => .bad
  | .exc n i e => .exc n i e
  | .bad => .bad
theorem splitL_ok {m : Md} {c : Cn} {F : Hp} {σ : L2.St} {H : Hp} {env : En} : ∀ {vs : List V} {rs : List Rv} {ds : List D} {r : Rv}, Paired (RvP m c F σ H env) vs rs → splitL rs = some (ds, r) → ∃ vs' v, vs = vs' ++ [v] ∧ FzA m F vs' ds ∧ RvP m c F σ H env v r
  | _, _, _, _, .nil, e => by cases e
  | _, _, ds, r, .cons (a := v) (b := b) h .nil, e => by
    have e : some (([] : List D), b) = some (ds, r) := by
      cases b <;> exact e
    cases e
    exact ⟨[], v, rfl, .nil, h⟩
  | _, _, ds, r, .cons (a := v) (b := .fz d) h (.cons h2 t), e => by
    dsimp only [splitL] at e
    split at e
    · rename_i ds2 r2 e2
      cases e
      obtain ⟨vs', v', h3, h4, h5⟩ := splitL_ok (.cons h2 t) e2
      exact ⟨v :: vs', v', by rw [h3]; rfl, .cons h.fz h4, h5⟩
    · cases e
  | _, _, ds, r, .cons (b := .sl d) h (.cons h2 t), e => by cases e
  | _, _, ds, r, .cons (b := .ow d) h (.cons h2 t), e => by cases e
theorem res_rv {m : Md} {c : Cn} {F F2 H H2 : Hp} {σ : L2.St} {env : En} {fresh : Bool} {v : V} {d : D} (R0 : Rl m c F σ H env) (R : Rl m c F2 σ H2 env) (h : ResR m F2 H H2 fresh v d) : RvR m c F2 σ H2 env v (if fresh = true then .ow d else .fz d) := by
  unfold ResR at h
  cases fresh with
  | false => exact h
  | true =>
    obtain ⟨r, rfl, h1, h2, h3⟩ := h
    exact ⟨r, rfl, ⟨h1, .inl (R0.H0none h2), h3⟩, R0.free_of_none h2⟩
theorem free_set {c : Cn} {σ : L2.St} {env : En} {r : Addr} {j : Nat} {d d' : D} (hj : env[j]? = some (.ow d)) (h : Free c σ env r) : Free c σ (env.set j (.ow d')) r := by
  refine ⟨fun i e q => ?_, h.2⟩
  rcases set_get q with ⟨rfl, _⟩ | ⟨_, q⟩
  · exact h.1 i _ hj
  · exact h.1 i _ q
theorem tX_call {m : Md} {k : Kx} {fresh : Bool} {ew : EW} {fn : List D → FR} {g : AX} {σ : L2.St} {H : Hp} {Q : VK} {E : XK} (h : tX m k (callF fresh fn g) σ H Q) : tCall (spT m false fresh ew fn) [] E (tAX m k g) σ H Q := by
  obtain ⟨c, F, env, hm, R, q⟩ := h
  refine ⟨c, F, env, hm, R, ?_⟩
  unfold callF at q
  cases e1 : g env with
  | bad => rw [e1] at q; exact q
  | exc n i e => rw [e1] at q; exact q
  | ok rs e =>
    rw [e1] at q
    intro F' H' vs s R1 z
    dsimp only at q
    rw [List.append_nil]
    split at q
    · rename_i ds hds
      refine ⟨F', ds, none, rfl, R1.sub, allFz_fz z hds, ?_⟩
      cases e2 : fn ds with
      | bad => rw [e2] at q; exact q.elim
      | exc n i => rw [e2] at q; exact q.elim
      | ok d o =>
        rw [e2] at q
        intro v F2 H2 s2 s3 new keep _ res
        have R2 := R1.call s2 s3 new none keep fun r e => by cases e
        exact q F2 H2 v (s.trans s2) R2 (res_rv R1 R2 res)
    · exact q.elim
theorem tX_callIo {m : Md} {k : Kx} {fresh : Bool} {ew : EW} {fn : List D → FR} {g : AX} {σ : L2.St} {H : Hp} {Q : VK} {E : XK} (h : tX m k (callIo fresh fn g) σ H Q) : tCall (spT m true fresh ew fn) [] E (tAX m k g) σ H Q := by
  obtain ⟨c, F, env, hm, R, q⟩ := h
  refine ⟨c, F, env, hm, R, ?_⟩
  unfold callIo at q
  cases e1 : g env with
  | bad => rw [e1] at q; exact q
  | exc n i e => rw [e1] at q; exact q
  | ok rs e =>
    rw [e1] at q
    intro F' H' vs s R1 z
    dsimp only at q
    rw [List.append_nil]
    split at q
    · rename_i ds j hs
      obtain ⟨vs', v, rfl, hz, hv⟩ := splitL_ok z hs
      split at q
      · rename_i d hj
        obtain ⟨ov, h1, r, h2, h3⟩ := R1.slot j _ hj
        subst h2
        have hv : σ[j]? = some (some v) := by
          rcases hv with hv | ⟨d', e', _⟩
          · exact hv
          · cases e'
        rw [hv] at h1; cases h1
        refine ⟨F', ds ++ [d], some r, rfl, R1.sub, ⟨vs', ds, d, rfl, rfl, hz, h3.nf, h3.at_⟩, ?_⟩
        cases e2 : fn (ds ++ [d]) with
        | bad => rw [e2] at q; exact q.elim
        | exc n i => rw [e2] at q; exact q.elim
        | ok x o =>
          rw [e2] at q
          cases o with
          | none => exact q.elim
          | some d' =>
            intro v F2 H2 s2 s3 new keep out res
            obtain ⟨d2, e3, nf, ow⟩ := out r rfl
            cases e3
            have R2 := R1.call_slot hj hv s2 s3 new (fun a u e4 hne => keep a u e4 fun e5 => hne (Option.some.inj e5).symm) nf ow
            refine q F2 H2 v (s.trans s2) R2 ?_
            unfold ResR at res
            cases fresh with
            | false => exact res
            | true =>
              obtain ⟨r2, rfl, h4, h5, h6⟩ := res
              exact ⟨r2, rfl, ⟨h4, .inl (R1.H0none h5), h6⟩, free_set hj (R1.free_of_none h5)⟩
      · exact q.elim
    · rename_i ds d hs
      obtain ⟨vs', v, rfl, hz, hv⟩ := splitL_ok z hs
      obtain ⟨r, rfl, ow, free⟩ : ∃ r, v = .ref r ∧ OwnR m c F' H' r d ∧ Free c σ e r := by
        rcases hv with hv | ⟨d', e', h⟩
        · exact hv.elim
        · cases e'; exact h
      refine ⟨F', ds ++ [d], some r, rfl, R1.sub, ⟨vs', ds, d, rfl, rfl, hz, ow.nf, ow.at_⟩, ?_⟩
      cases e2 : fn (ds ++ [d]) with
      | bad => rw [e2] at q; exact q.elim
      | exc n i => rw [e2] at q; exact q.elim
      | ok x o =>
        rw [e2] at q
        intro v F2 H2 s2 s3 new keep out res
        have R2 := R1.call s2 s3 new (some r) keep fun r2 e3 => by cases e3; exact ⟨free, ow.nw.resolve_right (R1.ow_notM free)⟩
        exact q F2 H2 v (s.trans s2) R2 (res_rv R1 R2 res)
    · exact q.elim
section
variable {X : Cx} {kx : Kx} {j : Nat} {f : Addr} {fd : FuncData} {ps : List Str} {fresh : Bool} {ew : EW} {fn : List D → FR} {x : Str} {p pos : Pos} {e : Expr} {es : List Expr} {ga : AX}
theorem px_call (F : FnOk X.prog X.w X.K X.mg X.base (L2.CX X.prog X.w) j f fd ps (spT (mdOf X) false fresh ew fn)) (hr : Room j X.A) (hm : X.mg x = some (.ref f)) (hk : PySem.W.keepIn X.K (.ref f) = true) (hb : Binds X.K fd ps []) (ha : PAX X kx (e :: es) ga)
    (hg : Gl X x := by rfl) (hdb : (x == ("__debug__" : Str)) = false := by decide) (he : starEach (e :: es) X.env = (false, eval e X.env) :: starEach es X.env := by rfl) (hpl : (backTo pos (starEach es X.env)).any (·.1) = false := by rfl) :
    PX X kx (.Call (.Name x p) (e :: es) [] pos) (callF fresh fn ga) := imp (pe_call F hr hg hm hk hb .nil passL ha hdb he hpl) fun _ _ _ q => tX_call q
theorem px_call0 (F : FnOk X.prog X.w X.K X.mg X.base (L2.CX X.prog X.w) j f fd ps (spT (mdOf X) false fresh ew fn)) (hr : Room j X.A) (hm : X.mg x = some (.ref f)) (hk : PySem.W.keepIn X.K (.ref f) = true) (hb : Binds X.K fd ps [])
    (hg : Gl X x := by rfl) (hdb : (x == ("__debug__" : Str)) = false := by decide) :
    PX X kx (.Call (.Name x p) [] [] pos) (callF fresh fn aNil) := imp (pe_call0 F hr hg hm hk hb .nil passL hdb) fun _ _ _ q => by
  obtain ⟨c, F, env, hm, R, q⟩ := tX_call (E := E0) (ew := ew) q
  exact q F _ [] (Same.refl _) R .nil
theorem px_callIo (F : FnOk X.prog X.w X.K X.mg X.base (L2.CX X.prog X.w) j f fd ps (spT (mdOf X) true fresh ew fn)) (hr : Room j X.A) (hm : X.mg x = some (.ref f)) (hk : PySem.W.keepIn X.K (.ref f) = true) (hb : Binds X.K fd ps []) (ha : PAX X kx (e :: es) ga)
    (hg : Gl X x := by rfl) (hdb : (x == ("__debug__" : Str)) = false := by decide) (he : starEach (e :: es) X.env = (false, eval e X.env) :: starEach es X.env := by rfl) (hpl : (backTo pos (starEach es X.env)).any (·.1) = false := by rfl) :
    PX X kx (.Call (.Name x p) (e :: es) [] pos) (callIo fresh fn ga) := imp (pe_call F hr hg hm hk hb .nil passL ha hdb he hpl) fun _ _ _ q => tX_callIo q
end

/-! ### a method that changes what a slot owns -/
def isTy (T : String) : D → Bool
  | .list _ => T == "list"
  | .dict _ => T == "dict"
  | _ => false
def mMut (T : String) (op : D → List D → Option (D × D)) (j : Nat) (g : AX) : EX := fun env => match env[j]? with
  | some (.ow d0) => if isTy T d0 = true then match g env with
      | .ok rs e => match allFz rs, e[j]? with
        | some xs, some (.ow d) => match op d xs with
          | some (r, d') => .ok (.fz r) (e.set j (.ow d'))
          | none => .bad
        | _, _ => .bad
      | .exc n i e => .exc n i e
      | .bad => .bad
    else .bad
  | _ => .bad
def RuleM (m : Md) (r : V → List V → Hp → VK → Prop) (op : D → List D → Option (D × D)) : Prop := ∀ F H l d xs ds x d' Q, Sub F H → F l = none → OwnAt m F H l d → FzA m F xs ds → op d ds = some (x, d') →
  (∀ v o, OwnAt m F (upd H l o) l d' → Fz m F v x → Q v (upd H l o)) → r (.ref l) xs H Q
theorem sub_upd {F H : Hp} {l : Addr} {o : HO} (s : Sub F H) (nf : F l = none) : Sub F (upd H l o) := fun a u e => by
  rw [upd_ne (ne_of_none e nf)]; exact s a u e
theorem Rl.write {m : Md} {c : Cn} {F H : Hp} {σ : L2.St} {env : En} (R : Rl m c F σ H env) {j : Nat} {d d' : D} {l : Addr} {o : HO} (hj : env[j]? = some (.ow d)) (hσ : σ[j]? = some (some (.ref l))) (nf : F l = none) (ow : OwnAt m F (upd H l o) l d') : Rl m c F σ (upd H l o) (env.set j (.ow d')) :=
  R.call_slot hj hσ (Same.refl _) (sub_upd R.sub nf) (fun a u e => .inl e) (fun a u e hne => by rw [upd_ne hne]; exact e) nf ow
theorem tX_mut {m : Md} {k : Kx} {T : String} {r : V → List V → Hp → VK → Prop} {op : D → List D → Option (D × D)} {j : Nat} {g : AX} {σ : L2.St} {H : Hp} {Q : VK} {ty : V → Hp → Prop} (rule : RuleM m r op) (hty : ∀ F H l d, OwnAt m F H l d → isTy T d = true → ty (.ref l) H)
    (h : tX m k (mMut T op j g) σ H Q) : tVar j σ H fun x H1 => ty x H1 ∧ tAX m k g σ H1 fun xs H2 => r x xs H2 Q := by
  obtain ⟨c, F, env, hm, R, q⟩ := h
  unfold mMut at q
  split at q
  · rename_i d0 h0
    obtain ⟨ov, h1, l, h2, h3⟩ := R.slot j _ h0
    subst h2
    split at q
    · rename_i ht
      refine ⟨.ref l, h1, hty F H l d0 h3.at_ ht, c, F, env, hm, R, ?_⟩
      cases e1 : g env with
      | bad => rw [e1] at q; exact q
      | exc n i e => rw [e1] at q; exact q
      | ok rs e =>
        rw [e1] at q
        intro F' H' vs s R1 z
        dsimp only at q
        split at q
        · rename_i xs d hxs hd
          split at q
          · rename_i x d' hop
            obtain ⟨ov, h4, l2, h5, h6⟩ := R1.slot j _ hd
            rw [h1] at h4; cases h4; cases h5
            exact rule F' H' l d vs xs x d' Q R1.sub h6.nf h6.at_ (allFz_fz z hxs) hop fun v o how hv => q F' _ v s (R1.write hd h1 h6.nf how) hv
          · exact q.elim
        · exact q.elim
    · exact q.elim
  · exact q.elim
theorem tyV_list {m : Md} (F H : Hp) (l : Addr) (d : D) (h : OwnAt m F H l d) (e : isTy "list" d = true) : tyV m.K "list" (.ref l) H := by
  cases d with
  | list ds => obtain ⟨xs, h1, _⟩ := h; exact .inl ⟨rfl, xs, SqL.of h1⟩
  | dict kvs => simp [isTy] at e
  | _ => exact h.elim
section
variable {X : Cx} {k : Kx} {x : Str} {e : Expr} {es : List Expr} {g : AX} {xpos apos cpos : Pos} {id : String} {name : Str} {r : V → List V → Hp → VK → Prop} {op : D → List D → Option (D × D)}
theorem px_mutL (j : Nat) (slot : PySem.Slot "list" name id) (hty : typeOf (.builtin id) = pure (.type "method_descriptor")) (hm : MtR X id r) (rule : RuleM (mdOf X) r op) (ha : PAX X k (e :: es) g)
    (hN : X.N[j]? = some x := by rfl) (hv : Vis X.env.scope x := by first | exact Or.inl rfl | exact Or.inr (Or.inl rfl) | exact Or.inr (Or.inr rfl)) (hd : (x == ("__debug__" : Str)) = false := by decide) (hcd : (x == ("__classdict__" : Str)) = false := by decide)
    (hbase : attributeBase (.Name x xpos) name X.env (eval (.Name x xpos) X.env) = eval (.Name x xpos) X.env := by rfl)
    (hfew : ((backTo cpos (starEach (e :: es) X.env)).all (fun x => !x.1) && (backToKw cpos (keywordEach [] X.env)).all (fun x => x.1.isSome)
      && decide ((e :: es).length + ([] : List Keyword).length + (if ([] : List Keyword).isEmpty then 0 else 1) < 30)) = true := by rfl)
    (hline : (apos.endLine == cpos.line) = true := by rfl) (hs : starEach (e :: es) X.env = (false, eval e X.env) :: starEach es X.env := by rfl) (hplain : (backTo cpos (starEach es X.env)).any (·.1) = false := by rfl) :
    PX X k (.Call (.Attribute (.Name x xpos) name apos) (e :: es) [] cpos) (mMut "list" op j g) :=
  imp (pe_bm PySem.F.plainAttrs_list slot hty hm (pe_var hN hv hd hcd) ha hbase hfew hline hs hplain) fun σ H Q q => tX_mut (ty := fun x H => tyV X.K "list" x H) rule tyV_list q
theorem px_mutL0 (j : Nat) (slot : PySem.Slot "list" name id) (hty : typeOf (.builtin id) = pure (.type "method_descriptor")) (hm : MtR X id r) (rule : RuleM (mdOf X) r op)
    (hN : X.N[j]? = some x := by rfl) (hv : Vis X.env.scope x := by first | exact Or.inl rfl | exact Or.inr (Or.inl rfl) | exact Or.inr (Or.inr rfl)) (hd : (x == ("__debug__" : Str)) = false := by decide) (hcd : (x == ("__classdict__" : Str)) = false := by decide)
    (hbase : attributeBase (.Name x xpos) name X.env (eval (.Name x xpos) X.env) = eval (.Name x xpos) X.env := by rfl) (hline : (apos.endLine == cpos.line) = true := by rfl) :
    PX X k (.Call (.Attribute (.Name x xpos) name apos) [] [] cpos) (mMut "list" op j aNil) :=
  imp (pe_bm0 PySem.F.plainAttrs_list slot hty hm (pe_var hN hv hd hcd) hbase hline) fun σ H Q q => by
    obtain ⟨v, h1, h2, c, F, env, hm, R, h3⟩ := tX_mut (ty := fun x H => tyV X.K "list" x H) rule tyV_list q
    exact ⟨v, h1, h2, h3 F H [] (Same.refl _) R .nil⟩
end
/-! list.append, extend, pop -/
def opAppend : D → List D → Option (D × D) := fun d xs => match d, xs with
  | .list ds, [x] => if ds.length < line then some (.none, .list (ds ++ [x])) else none
  | _, _ => none
def opPop : D → List D → Option (D × D) := fun d xs => match d, xs with
  | .list ds, [] => match ds[ds.length - 1]? with
    | some x => some (x, .list ds.dropLast)
    | none => none
  | _, _ => none
def opPopAt : D → List D → Option (D × D) := fun d xs => match d, xs with
  | .list ds, [.int i] => if -(2 ^ 63) ≤ i ∧ i < 2 ^ 63 then match seqIndex? i ds.length with
      | some k => match ds[k]? with
        | some x => some (x, .list (ds.eraseIdx k))
        | none => none
      | none => none
    else none
  | _, _ => none
theorem FzA.dropLast {m : Md} {F : Hp} {vs : List V} {ds : List D} (h : FzA m F vs ds) : FzA m F vs.dropLast ds.dropLast := by
  rw [List.dropLast_eq_take, List.dropLast_eq_take, h.length]
  exact h.take _
theorem FzA.eraseIdx {m : Md} {F : Hp} {vs : List V} {ds : List D} (h : FzA m F vs ds) (k : Nat) : FzA m F (vs.eraseIdx k) (ds.eraseIdx k) := by
  rw [List.eraseIdx_eq_take_drop_succ, List.eraseIdx_eq_take_drop_succ]
  exact (h.take _).append (h.drop _)
theorem rule_append {m : Md} : RuleM m rAppend opAppend := by
  intro F H l d xs ds x d' Q s nf ow hx e q
  unfold opAppend at e
  split at e
  · rename_i ds0 y
    split at e
    · rename_i hl
      cases e
      obtain ⟨ys, h1, h2⟩ := ow
      cases hx with
      | cons h3 h4 =>
        cases h4
        refine ⟨l, ys, _, rfl, rfl, h1, by rw [h2.length, ← line_eq]; exact hl, q .non _ ⟨_, upd_same, h2.append (.cons h3 .nil)⟩ .non⟩
    · cases e
  · cases e
theorem rule_pop {m : Md} : RuleM m rPop opPop := by
  intro F H l d xs ds x d' Q s nf ow hx e q
  unfold opPop at e
  split at e
  · rename_i ds0
    split at e
    · rename_i x hl
      cases e
      obtain ⟨ys, h1, h2⟩ := ow
      cases hx
      obtain ⟨v, h3, h4⟩ := h2.get hl
      exact ⟨l, ys, v, rfl, rfl, h1, by rw [h2.length]; exact h3, q v _ ⟨_, upd_same, h2.dropLast⟩ h4⟩
    · cases e
  · cases e
theorem rule_popAt {m : Md} : RuleM m rPopAt opPopAt := by
  intro F H l d xs ds x d' Q s nf ow hx e q
  unfold opPopAt at e
  split at e
  · rename_i ds0 i
    split at e
    · rename_i hi
      split at e
      · rename_i k hk
        split at e
        · rename_i x hl
          cases e
          obtain ⟨ys, h1, h2⟩ := ow
          cases hx with
          | cons h5 h6 =>
            cases h6
            cases h5
            obtain ⟨v, h3, h4⟩ := h2.get hl
            exact ⟨l, ys, i, k, v, rfl, rfl, h1, hi.1, hi.2, by rw [h2.length]; exact hk, h3, q v _ ⟨_, upd_same, h2.eraseIdx k⟩ h4⟩
        · cases e
      · cases e
    · cases e
  · cases e
/-- extend by a list that is read -/
def rExtendS (K : PySem.W.Frag) : V → List V → Hp → VK → Prop := fun x vs H Q => ∃ l b xs zs, x = .ref l ∧ vs = [.ref b] ∧ H l = some (.lst xs) ∧ SqL K H b zs ∧ xs.length + zs.length ≤ sizeLine ∧ Q .non (upd H l (.lst (xs ++ zs)))
end T3
end

section
set_option autoImplicit false
/-! THE TREE LAYER, part G: operations on values. -/
namespace T3
open PySem PySem.Spec PyProof.Rows L2

/-! ### list.extend, a list's item set -/
/-- any plain list's items behind a list of ours -/
theorem ext_plain (l b : Addr) (xs ys : Array Value) (n n2 : Nat) (sl : Array (Option Value)) (h0 : ¬(!xs.isEmpty && Builtin.List.listTooLong (xs.size + ys.size)) = true) (h1 : xs.size ≤ sizeLine) (h2 : xs.size + ys.size ≤ sizeLine + 1) :
    Meets (Builtin.«list.extend» ⟨[.ref l, .ref b], []⟩) (fun _ R s =>
      (s.heap.get? l = some { cls := .type "list", dict := none, data := .seq xs n, slots := #[] } ∧ s.heap.get? b = some { cls := .type "list", dict := none, data := .seq ys n2, slots := sl }) ∧
      R (.ok (.ret Value.none)) { s with heap := s.heap.update l (Obj.mapSeq fun x => x ++ ys), toks := s.toks }) :=
  .of_wp fun prog w A R s h => by
    obtain ⟨hp, g, d, tk, os⟩ := s
    obtain ⟨⟨hl, hb⟩, h⟩ := h
    have f1 := AutoSeq1.idx_int
    have f2 := AutoSeq1.sub_tuple_tuple
    have f3 := AutoSeq1.sub_list_list
    have f4 := AutoSeq1.sub_tuple_list
    have f5 := AutoSeq1.sub_list_tuple
    have hz' : (xs ++ ys).size ≤ sizeLine + 1 := by rw [Array.size_append]; exact h2
    wp_walk using (wpAny_updateSeq hl rfl (hz := h1) (_hz' := hz')), wpAny_loadPart' hl, wpAny_loadPart' hb
    exact ⟨_, rfl, h⟩
def rExtP (K : PySem.W.Frag) : V → List V → Hp → VK → Prop := fun x vs H Q => ∃ l b xs zs, x = .ref l ∧ vs = [.ref b] ∧ H l = some (.lst xs) ∧ SqL K H b zs ∧ xs.length + zs.length ≤ sizeLine ∧ Q .non (upd H l (.lst (xs ++ zs)))
theorem mt_extP {X : Cx} : MtM X "list.extend" (rExtP X.K) := by
  intro pins s σ H x vs v us Q I rx rv h
  obtain ⟨l, b, xs, zs, rfl, rfl, hH, hB, hz, q⟩ := h
  cases rx
  obtain ⟨u, rfl, ru⟩ := rv.one
  cases ru
  obtain ⟨z, its, n, r, hl, e⟩ := I.lstM hH
  obtain ⟨its2, r2, ⟨⟨c2, d2, da2, sl2⟩, n2, e2, hc2, hd2, hda2⟩, z2⟩ := I.list hB
  have hl2 := r2.length
  simp only at hc2 hd2 hda2
  subst hc2 hd2 hda2
  have hsz : its.toArray.size + its2.toArray.size ≤ sizeLine := by rw [List.size_toArray, List.size_toArray]; omega
  have hlong : ¬ (!its.toArray.isEmpty && Builtin.List.listTooLong (its.toArray.size + its2.toArray.size)) = true := fun y => by
    have y := (Bool.and_eq_true_iff.mp y).2
    rw [notLongL hsz] at y
    cases y
  refine call_meets F.slot_list_extend ⟨_, e, rfl⟩ F.entry_list_extend (F.args_list_extend_2 _ _) (ext_plain l b its.toArray its2.toArray n n2 sl2 hlong (by rw [List.size_toArray]; omega) (by omega)) ⟨⟨e, e2⟩, ?_⟩
  refine ⟨.non, _, I.lset (its' := its ++ its2) hH e (by simp) (r.append r2) ?_, rfl, q⟩
  rw [List.length_append]
  omega
/-- a + b, plain lists -/
def rCatP (K : PySem.W.Frag) : R2 := fun x y H Q => ∃ l b xs zs, x = .ref l ∧ y = .ref b ∧ SqL K H l xs ∧ SqL K H b zs ∧ xs.length + zs.length ≤ sizeLine ∧ ∀ p, H p = none → Q (.ref p) (upd H p (.lst (xs ++ zs)))
theorem op_catP {X : Cx} : OpR X (binaryOp .Add) (rCatP X.K) := by
  intro pins s σ H x y v u Q I rx ry h
  obtain ⟨l, b, xs, zs, rfl, rfl, hH, hB, hz, q⟩ := h
  cases rx
  cases ry
  obtain ⟨its, r, ⟨⟨c1, d1, da1, sl1⟩, n1, e1, hc1, hd1, hda1⟩, z1⟩ := I.list hH
  obtain ⟨its2, r2, ⟨⟨c2, d2, da2, sl2⟩, n2, e2, hc2, hd2, hda2⟩, z2⟩ := I.list hB
  simp only at hc1 hd1 hda1 hc2 hd2 hda2
  subst hc1 hd1 hda1 hc2 hd2 hda2
  have hl := r.length
  have hl2 := r2.length
  have hsz : its.toArray.size + its2.toArray.size ≤ sizeLine := by rw [List.size_toArray, List.size_toArray]; omega
  refine concat_meets ⟨_, e1, rfl⟩ ⟨_, e2, rfl⟩ noFill_list_add seq_list_add PySem.F.slot_list_add PySem.F.entry_list_add (PySem.F.args_list_add_2 _ _) (list_addW l b its.toArray its2.toArray n1 n2 none none sl1 sl2 hsz) ⟨e1, e2, ?_⟩
  have ea : its.toArray ++ its2.toArray = (its ++ its2).toArray := by simp
  rw [ea]
  exact ⟨.ref _, _, I.lnew (t' := s.toks) (r.append r2) (by rw [List.length_append]; omega), rfl, q _ I.fresh⟩
def opExtend : D → List D → Option (D × D) := fun d xs => match d, xs with
  | .list ds, [.list es] => if ds.length + es.length ≤ line then some (.none, .list (ds ++ es)) else none
  | _, _ => none
theorem rule_extend {m : Md} : RuleM m (rExtP m.K) opExtend := by
  intro F H l d xs ds x d' Q s nf ow hx e q
  unfold opExtend at e
  split at e
  · rename_i ds0 es
    split at e
    · rename_i hl
      cases e
      obtain ⟨ys, h1, h2⟩ := ow
      cases hx with
      | cons h3 h4 =>
        cases h4
        cases h3 with
        | lst h5 h6 =>
          exact ⟨l, _, ys, _, rfl, rfl, h1, sqL_mono s h5, by rw [h2.length, h6.length, ← line_eq]; exact hl, q .non _ ⟨_, upd_same, h2.append h6⟩ .non⟩
    · cases e
  · cases e
section
variable {X : Cx} {k : Kx} {x : Str} {e : Expr} {g : AX} {xpos apos cpos : Pos}
/-- o[i] = e, o what the j-th slot owns -/
def sPut (ms : List Nat) (op : D → D → D → Option D) (j : Nat) (fi fe : EX) : SX := fun env => match fz ms fe env with
  | .ok (.fz v) e1 => match e1[j]? with
    | some (.ow _) => match fz ms fi e1 with
      | .ok (.fz i) e2 => match e2[j]? with
        | some (.ow d) => match op d i v with
          | some d' => .nx (e2.set j (.ow d'))
          | none => .bad
        | _ => .bad
      | .exc n i e => .exc n i e
      | _ => .bad
    | _ => .bad
  | .exc n i e => .exc n i e
  | _ => .bad
def RuleS (m : Md) (t : TSet) (op : D → D → D → Option D) : Prop := ∀ F H l d i id v vd d' Q, Sub F H → F l = none → OwnAt m F H l d → Fz m F i id → Fz m F v vd → op d id vd = some d' →
  (∀ o, OwnAt m F (upd H l o) l d' → Q (upd H l o)) → t (.ref l) i v H Q
theorem psx_put {t : TSet} {op : D → D → D → Option D} (j : Nat) {ie ve : Expr} {fi fe : EX} {spos pos : Pos} (hs : PSet X t) (rule : RuleS (mdOf X) t op) (hi : PX X k ie fi) (he : PX X k ve fe)
    (hN : X.N[j]? = some x := by rfl) (hv : Vis X.env.scope x := by first | exact Or.inl rfl | exact Or.inr (Or.inl rfl) | exact Or.inr (Or.inr rfl)) (hd : (x == ("__debug__" : Str)) = false := by decide) (hcd : (x == ("__classdict__" : Str)) = false := by decide)
    (ha : ∀ v, assign (.Subscript (.Name x xpos) ie spos) X.env v = (do
      let ov ← holding [v] (eval (.Name x xpos) X.env)
      let iv ← holding [v, ov] (eval ie X.env)
      standAt spos
      holding [v, ov, iv] (setItem ov iv v)
      release [v, ov, iv] []) := by intro _; rfl)
    (hsw : swapsWithSole [.Subscript (.Name x xpos) ie spos] ve pos.line X.env = pure false := by rfl) (hw : swappedStores [.Subscript (.Name x xpos) ie spos] ve X.env = pure none := by rfl)
    (h1 : (assignEach [.Subscript (.Name x xpos) ie spos] X.env).map (·.2) = [assign (.Subscript (.Name x xpos) ie spos) X.env] := by rfl) :
    PSX X k (.Assign [.Subscript (.Name x xpos) ie spos] ve pos) (sPut k.ms op j fi fe) :=
  impS (ps_asg he.fz (pg_sub (pe_var hN hv hd hcd) hi.fz hs ha) hsw hw h1) fun D σ H ⟨c, F, env, hm, R, q⟩ => by
    refine ⟨c, F, env, hm, R, ?_⟩
    unfold sPut at q
    cases e1 : T3.fz k.ms fe env with
    | bad => rw [e1] at q; exact q
    | exc n i e => rw [e1] at q; exact fun F' H' s R1 => q F' σ H' s R1
    | ok r ea =>
      rw [e1] at q
      cases r with
      | sl j => exact q.elim
      | ow d => exact q.elim
      | fz v =>
        intro F1 H1 vv s1 R1 z1
        dsimp only at q
        split at q
        · rename_i d0 h0
          obtain ⟨ov, h1, l, h2, h3⟩ := R1.slot j _ h0
          subst h2
          refine ⟨.ref l, h1, c, F1, ea, hm, R1, ?_⟩
          cases e2 : T3.fz k.ms fi ea with
          | bad => rw [e2] at q; exact q
          | exc n i e => rw [e2] at q; exact fun F' H' s R2 => q F' σ H' (s1.trans s) R2
          | ok r eb =>
            rw [e2] at q
            cases r with
            | sl j => exact q.elim
            | ow d => exact q.elim
            | fz i =>
              intro F2 H2 iv s2 R2 z2
              dsimp only at q
              split at q
              · rename_i d hd
                split at q
                · rename_i d' hop
                  obtain ⟨ov, h4, l2, h5, h6⟩ := R2.slot j _ hd
                  rw [h1] at h4; cases h4; cases h5
                  exact rule F2 H2 l d iv i vv v d' _ R2.sub h6.nf h6.at_ z2 (z1.mono s2) hop fun o how => q F2 σ _ (s1.trans s2) (R2.write hd h1 h6.nf how)
                · exact q.elim
              · exact q.elim
        · exact q.elim
end
def opSetL : D → D → D → Option D := fun d i v => match d, i with
  | .list ds, .int k => match ixN ds.length k with
    | some j => some (.list (ds.set j v))
    | none => none
  | _, _ => none
theorem rule_setL {m : Md} : RuleS m rSetL opSetL := by
  intro F H l d i id v vd d' Q s nf ow hi hv e q
  unfold opSetL at e
  split at e
  · rename_i ds0 kk
    split at e
    · rename_i jj hj
      cases e
      obtain ⟨ys, h1, h2⟩ := ow
      cases hi
      exact ⟨l, ys, kk, jj, rfl, rfl, h1, by rw [h2.length]; exact hj, q _ ⟨_, upd_same, h2.set hv jj⟩⟩
    · cases e
  · cases e

/-! ### arithmetic -/
def cmulB (i j : Int) : Bool := (decide (-(2 ^ 64) < i) && decide (i < 2 ^ 64)) || (decide (-(2 ^ 64) < j) && decide (j < 2 ^ 64))
theorem cmulB_ok {i j : Int} (h : cmulB i j = true) : CMul i j := by
  unfold cmulB at h
  simp only [Bool.or_eq_true, Bool.and_eq_true, decide_eq_true_eq] at h
  exact h
theorem Tp.int {m : Md} {F H : Hp} {v : V} {i : Int} (h : Tp m F H v (.int i)) : v = .int i := by
  have h : Fz m F v (.int i) := h
  cases h; rfl
theorem Tp.bl {m : Md} {F H : Hp} {v : V} {i : Bool} (h : Tp m F H v (.bool i)) : v = .bl i := by
  have h : Fz m F v (.bool i) := h
  cases h; rfl
theorem Tp.str {m : Md} {F H : Hp} {v : V} {i : Str} (h : Tp m F H v (.str i)) : v = .str i := by
  have h : Fz m F v (.str i) := h
  cases h; rfl
theorem Tp.non {m : Md} {F H : Hp} {v : V} (h : Tp m F H v .none) : v = .non := by
  have h : Fz m F v .none := h
  cases h; rfl
theorem Tp.tup {m : Md} {F H : Hp} {v : V} {ds : List D} (s : Sub F H) (h : Tp m F H v (.tuple ds)) : ∃ a xs, v = .ref a ∧ SqT m.K H a xs ∧ FzA m F xs ds := by
  have h : Fz m F v (.tuple ds) := h
  cases h with
  | tup h1 h2 => exact ⟨_, _, rfl, sqT_mono s h1, h2⟩
def pInt (op : Int → Int → Option Int) : D → D → Option Out := fun d e => match d, e with
  | .int i, .int j => match op i j with
    | some r => some (.fz (.int r))
    | none => none
  | _, _ => none
theorem rule_int {m : Md} {C : Int → Int → Prop} {g : Int → Int → Int} {op : Int → Int → Option Int} (h : ∀ i j r, op i j = some r → C i j ∧ r = g i j) : Rule2 m (rI C fun i j => .int (g i j)) (pInt op) := by
  intro F H x y d e o Q s hx hy ho q
  unfold pInt at ho
  split at ho
  · split at ho
    · rename_i r hr
      cases ho
      obtain ⟨h1, rfl⟩ := h _ _ _ hr
      exact ⟨_, _, hx.int, hy.int, h1, q _ (.int _)⟩
    · cases ho
  · cases ho
theorem rule_int0 {m : Md} {g : Int → Int → Int} {op : Int → Int → Option Int} (h : ∀ i j r, op i j = some r → r = g i j) : Rule2 m (rI0 fun i j => .int (g i j)) (pInt op) := by
  intro F H x y d e o Q s hx hy ho q
  unfold pInt at ho
  split at ho
  · split at ho
    · rename_i r hr
      cases ho
      have e := h _ _ _ hr
      subst e
      exact ⟨_, _, hx.int, hy.int, q _ (.int _)⟩
    · cases ho
  · cases ho
def pSub : D → D → Option Out := pInt fun i j => some (i - j)
theorem rule_sub {m : Md} : Rule2 m (rI0 fun i j => .int (i - j)) pSub := rule_int0 fun _ _ _ e => (Option.some.inj e).symm
def pMulI : Int → Int → Option Int := fun i j => if cmulB i j = true then some (i * j) else none
def pMul : D → D → Option Out := pInt pMulI
theorem rule_mul {m : Md} : Rule2 m (rI CMul fun i j => .int (i * j)) pMul := rule_int fun i j r e => by
  unfold pMulI at e
  split at e
  · exact ⟨cmulB_ok (by assumption), (Option.some.inj e).symm⟩
  · cases e
def pDivI : Int → Int → Option Int := fun i j => if 0 < j ∧ j < 1073741824 then some (i / j) else none
def pDiv : D → D → Option Out := pInt pDivI
theorem rule_div {m : Md} : Rule2 m (rI CDiv fun i j => .int (i / j)) pDiv := rule_int fun i j r e => by
  unfold pDivI at e
  split at e
  · exact ⟨by assumption, (Option.some.inj e).symm⟩
  · cases e
def pModI : Int → Int → Option Int := fun i j => if 0 < j then some (i % j) else none
def pMod : D → D → Option Out := pInt pModI
theorem rule_mod {m : Md} : Rule2 m (rI (fun _ j => 0 < j) fun i j => .int (i % j)) pMod := rule_int fun i j r e => by
  unfold pModI at e
  split at e
  · exact ⟨by assumption, (Option.some.inj e).symm⟩
  · cases e
def pPowI : Int → Int → Option Int := fun i j => if 0 ≤ j ∧ j ≤ 1000000 ∧ i.natAbs < 2 ^ 64 then some (i ^ j.toNat) else none
def pPow : D → D → Option Out := pInt pPowI
theorem rule_pow {m : Md} : Rule2 m (rI CPow fun i j => .int (i ^ j.toNat)) pPow := rule_int fun i j r e => by
  unfold pPowI at e
  split at e
  · exact ⟨by assumption, (Option.some.inj e).symm⟩
  · cases e
def pNeg : D → Option Out := fun d => match d with
  | .int i => some (.fz (.int (-i)))
  | _ => none
theorem rule_neg {m : Md} : Rule1 m (rU fun i => .int (-i)) pNeg := by
  intro F H x d o Q s hx ho q
  unfold pNeg at ho
  split at ho
  · cases ho
    exact ⟨_, hx.int, q _ (.int _)⟩
  · cases ho
/-! + of ints, texts, lists, tuples -/
def pAdd : D → D → Option Out := fun d e => match d, e with
  | .int i, .int j => some (.fz (.int (i + j)))
  | .str x, .str y => if x.length + y.length ≤ line then some (.fz (.str (x ++ y))) else none
  | .list xs, .list ys => if xs.length + ys.length ≤ line then some (.nl (xs ++ ys)) else none
  | .tuple xs, .tuple ys => if xs.length + ys.length ≤ line then some (match xs, ys with
      | [], _ => .fz (.tuple ys)
      | _, [] => .fz (.tuple xs)
      | _, _ => .nt (xs ++ ys)) else none
  | _, _ => none
abbrev rAddS : R2 := fun x y H Q => ∃ i j, x = .str i ∧ y = .str j ∧ i.length + j.length ≤ sizeLine ∧ Q (.str (i ++ j)) H
abbrev rAddAll (K : PySem.W.Frag) : R2 := fun x y H Q => (rI0 fun i j => .int (i + j)) x y H Q ∨ (rAddS x y H Q ∨ (rCatP K x y H Q ∨ rCatA K x y H Q))
theorem op_addAll {X : Cx} : OpR X (binaryOp .Add) (rAddAll X.K) := op_add.or (op_add_str.or (op_catP.or op_catA))
theorem rule_add {m : Md} : Rule2 m (rAddAll m.K) pAdd := by
  intro F H x y d e o Q s hx hy ho q
  unfold pAdd at ho
  split at ho
  · cases ho
    exact .inl ⟨_, _, hx.int, hy.int, q _ (.int _)⟩
  · split at ho
    · rename_i hl
      cases ho
      exact .inr (.inl ⟨_, _, hx.str, hy.str, by rw [← line_eq]; exact hl, q _ (.str _)⟩)
    · cases ho
  · split at ho
    · rename_i hl
      cases ho
      obtain ⟨a, us, rfl, h1, h2⟩ := hx
      obtain ⟨b, ws, rfl, h3, h4⟩ := hy
      exact .inr (.inr (.inl ⟨a, b, us, ws, rfl, rfl, h1, h3, by rw [h2.length, h4.length, ← line_eq]; exact hl, fun p hp => q p _ hp (h2.append h4)⟩))
    · cases ho
  · split at ho
    · rename_i hl
      obtain ⟨a, us, rfl, h1, h2⟩ := hx.tup s
      obtain ⟨b, ws, rfl, h3, h4⟩ := hy.tup s
      refine .inr (.inr (.inr ⟨a, b, us, ws, rfl, rfl, h1, h3, by rw [h2.length, h4.length, ← line_eq]; exact hl, fun e1 => ?_, fun e1 e2 => ?_, fun e1 e2 p hp => ?_⟩))
      · subst e1
        cases h2
        cases ho
        exact q _ hy
      · subst e2
        cases h4
        cases h2 with
        | nil => exact absurd rfl e1
        | cons h5 h6 => cases ho; exact q _ hx
      · cases h2 with
        | nil => exact absurd rfl e1
        | cons h5 h6 =>
          cases h4 with
          | nil => exact absurd rfl e2
          | cons h7 h8 => cases ho; exact q p _ hp ((FzA.cons h5 h6).append (.cons h7 h8))
    · cases ho
  · cases ho

/-! ### comparisons -/
def oB (b : Bool) : Option Out := some (.fz (.bool b))
def pCmpI (p : Int → Int → Bool) (ps : List Nat → List Nat → Bool) : D → D → Option Out := fun d e => match d, e with
  | .int i, .int j => oB (p i j)
  | .str x, .str y => oB (ps x.cps.toList y.cps.toList)
  | _, _ => none
def pLt : D → D → Option Out := pCmpI (fun i j => decide (i < j)) fun a b => decide (a < b)
def pLe : D → D → Option Out := pCmpI (fun i j => decide (i ≤ j)) fun a b => !decide (b < a)
def pGt : D → D → Option Out := pCmpI (fun i j => decide (j < i)) fun a b => decide (b < a)
def pGe : D → D → Option Out := pCmpI (fun i j => decide (j ≤ i)) fun a b => !decide (a < b)
abbrev rCmpS (ps : List Nat → List Nat → Bool) : R2 := fun x y H Q => ∃ i j, x = .str i ∧ y = .str j ∧ Q (.bl (ps i.cps.toList j.cps.toList)) H
theorem rule_cmp {m : Md} {p : Int → Int → Bool} {ps : List Nat → List Nat → Bool} : Rule2 m (fun x y H Q => (rI0 fun i j => .bl (p i j)) x y H Q ∨ rCmpS ps x y H Q) (pCmpI p ps) := by
  intro F H x y d e o Q s hx hy ho q
  unfold pCmpI at ho
  split at ho
  · cases ho
    exact .inl ⟨_, _, hx.int, hy.int, q _ (.bl _)⟩
  · cases ho
    exact .inr ⟨_, _, hx.str, hy.str, q _ (.bl _)⟩
  · cases ho
theorem op_ltA {X : Cx} : OpR X (compareOp .Lt) (fun x y H Q => (rI0 fun i j => .bl (decide (i < j))) x y H Q ∨ rCmpS (fun a b => decide (a < b)) x y H Q) := op_lt.or op_lt_str
theorem op_leA {X : Cx} : OpR X (compareOp .LtE) (fun x y H Q => (rI0 fun i j => .bl (decide (i ≤ j))) x y H Q ∨ rCmpS (fun a b => !decide (b < a)) x y H Q) := op_le.or op_le_str
theorem op_gtA {X : Cx} : OpR X (compareOp .Gt) (fun x y H Q => (rI0 fun i j => .bl (decide (j < i))) x y H Q ∨ rCmpS (fun a b => decide (b < a)) x y H Q) := op_gt.or op_gt_str
theorem op_geA {X : Cx} : OpR X (compareOp .GtE) (fun x y H Q => (rI0 fun i j => .bl (decide (j ≤ i))) x y H Q ∨ rCmpS (fun a b => !decide (a < b)) x y H Q) := op_ge.or op_ge_str
/-! == of trees -/
mutual
theorem Fz.dp {m : Md} {H : Hp} : ∀ {v : V} {d : D}, Fz m H v d → d.canLay0 = true → Dp m.K H v d
  | _, _, .non, _ => .non
  | _, _, .bl b, _ => .bl b
  | _, _, .int i, _ => .int i
  | _, _, .str x, _ => .str x
  | _, _, .lst h a, e => .lst h (FzA.dp a e)
  | _, _, .tup h a, e => .tup h (FzA.dp a e)
  | _, _, .dct h p a, e => by cases e
theorem FzA.dp {m : Md} {H : Hp} : ∀ {v : List V} {d : List D}, FzA m H v d → PyData.canLayAll0 d = true → DpAll m.K H v d
  | _, _, .nil, _ => .nil
  | _, _, .cons h t, e => by
    unfold PyData.canLayAll0 at e
    rw [Bool.and_eq_true] at e
    exact .cons (Fz.dp h e.1) (FzA.dp t e.2)
end
theorem Tp.dp {m : Md} {F H : Hp} {v : V} {d : D} (s : Sub F H) (h : Tp m F H v d) (e : SeqAt.shaped d = true) : Dp m.K H v d := by
  unfold SeqAt.shaped at e
  rw [Bool.and_eq_true] at e
  exact (h.fz s).dp e.1
def pEq (n : Bool) : D → D → Option Out := fun d e => if SeqAt.shaped d = true ∧ SeqAt.shaped e = true then oB (n ^^ PyData.eqv d e) else none
theorem rule_eq {m : Md} : Rule2 m (rEqD m.K) (pEq false) := by
  intro F H x y d e o Q s hx hy ho q
  unfold pEq at ho
  split at ho
  · rename_i hs
    cases ho
    refine ⟨d, e, hx.dp s hs.1, hy.dp s hs.2, hs.1, hs.2, ?_⟩
    have := q _ (.bl _)
    rwa [Bool.false_xor] at this
  · cases ho
theorem rule_ne {m : Md} : Rule2 m (rNeD m.K) (pEq true) := by
  intro F H x y d e o Q s hx hy ho q
  unfold pEq at ho
  split at ho
  · rename_i hs
    cases ho
    refine ⟨d, e, hx.dp s hs.1, hy.dp s hs.2, hs.1, hs.2, ?_⟩
    have := q _ (.bl _)
    rwa [Bool.true_xor] at this
  · cases ho
/-! is None, is of bools -/
def isNone : D → Bool
  | .none => true
  | _ => false
theorem Tp.isN {m : Md} {F H : Hp} {v : V} : ∀ {d : D}, Tp m F H v d → decide (v = .non) = isNone d
  | .none, h => by have h : Fz m F v .none := h; cases h; rfl
  | .bool _, h => by have h : Fz m F v (.bool _) := h; cases h; rfl
  | .int _, h => by have h : Fz m F v (.int _) := h; cases h; rfl
  | .str _, h => by have h : Fz m F v (.str _) := h; cases h; rfl
  | .tuple _, h => by have h : Fz m F v (.tuple _) := h; cases h; rfl
  | .list _, ⟨_, _, e, _⟩ => by subst e; rfl
  | .dict _, ⟨_, _, _, e, _⟩ => by subst e; rfl
def pIs (n : Bool) : D → D → Option Out := fun d e => match e with
  | .none => oB (n ^^ isNone d)
  | .bool b => match d with
    | .bool a => oB (n ^^ decide (a = b))
    | _ => none
  | _ => none
theorem op_isA {X : Cx} : OpR X (compareOp .Is) (fun x y H Q => (y = .non ∧ Q (.bl (decide (x = .non))) H) ∨ ∃ a b, x = .bl a ∧ y = .bl b ∧ Q (.bl (decide (a = b))) H) := op_isN.or op_is_bl
theorem op_isnA {X : Cx} : OpR X (compareOp .IsNot) (fun x y H Q => (y = .non ∧ Q (.bl (!decide (x = .non))) H) ∨ ∃ a b, x = .bl a ∧ y = .bl b ∧ Q (.bl (!decide (a = b))) H) := op_notN.or op_isnot_bl
theorem rule_is {m : Md} : Rule2 m (fun x y H Q => (y = .non ∧ Q (.bl (decide (x = .non))) H) ∨ ∃ a b, x = .bl a ∧ y = .bl b ∧ Q (.bl (decide (a = b))) H) (pIs false) := by
  intro F H x y d e o Q s hx hy ho q
  unfold pIs at ho
  split at ho
  · cases ho
    refine .inl ⟨hy.non, ?_⟩
    rw [hx.isN]
    have := q _ (.bl _)
    rwa [Bool.false_xor] at this
  · split at ho
    · cases ho
      refine .inr ⟨_, _, hx.bl, hy.bl, ?_⟩
      have := q _ (.bl _)
      rwa [Bool.false_xor] at this
    · cases ho
  · cases ho
theorem rule_isn {m : Md} : Rule2 m (fun x y H Q => (y = .non ∧ Q (.bl (!decide (x = .non))) H) ∨ ∃ a b, x = .bl a ∧ y = .bl b ∧ Q (.bl (!decide (a = b))) H) (pIs true) := by
  intro F H x y d e o Q s hx hy ho q
  unfold pIs at ho
  split at ho
  · cases ho
    refine .inl ⟨hy.non, ?_⟩
    rw [hx.isN]
    have := q _ (.bl _)
    rwa [Bool.true_xor] at this
  · split at ho
    · cases ho
      refine .inr ⟨_, _, hx.bl, hy.bl, ?_⟩
      have := q _ (.bl _)
      rwa [Bool.true_xor] at this
    · cases ho
  · cases ho

/-! ### items -/
def pIx : D → D → Option Out := fun d e => match d, e with
  | .list ds, .int i => match atI ds i with
    | some x => some (.fz x)
    | none => none
  | .tuple ds, .int i => match atI ds i with
    | some x => some (.fz x)
    | none => none
  | .str z, .int i => if z.length ≤ line then match atI z.cps.toList i with
      | some c => some (.fz (.str ⟨#[c]⟩))
      | none => none
    else none
  | _, _ => none
theorem FzA.atI {m : Md} {F : Hp} {vs : List V} {ds : List D} {i : Int} {d : D} (h : FzA m F vs ds) (e : L2.atI ds i = some d) : ∃ v, L2.atI vs i = some v ∧ Fz m F v d := by
  unfold L2.atI at e ⊢
  rw [h.length]
  cases q : ixN ds.length i with
  | none => rw [q] at e; cases e
  | some j => rw [q] at e; exact h.get e
theorem rule_ix {m : Md} : Rule2 m (fun x y H Q => rIxL m.K x y H Q ∨ (rIxT m.K x y H Q ∨ rIxS x y H Q)) pIx := by
  intro F H x y d e o Q s hx hy ho q
  unfold pIx at ho
  split at ho
  · split at ho
    · rename_i z hz
      cases ho
      obtain ⟨a, us, rfl, h1, h2⟩ := hx
      obtain ⟨v, h3, h4⟩ := h2.atI hz
      exact .inl ⟨a, us, _, v, rfl, hy.int, h1, h3, q v h4⟩
    · cases ho
  · split at ho
    · rename_i z hz
      cases ho
      obtain ⟨a, us, rfl, h1, h2⟩ := hx.tup s
      obtain ⟨v, h3, h4⟩ := h2.atI hz
      exact .inr (.inl ⟨a, us, _, v, rfl, hy.int, h1, h3, q v h4⟩)
    · cases ho
  · split at ho
    · rename_i hl
      split at ho
      · rename_i z hz
        cases ho
        exact .inr (.inr ⟨_, _, _, hx.str, hy.int, by rw [← line_eq]; exact hl, hz, q _ (.str _)⟩)
      · cases ho
    · cases ho
  · cases ho
theorem op_ixA {X : Cx} : IxR X (fun x y H Q => rIxL X.K x y H Q ∨ (rIxT X.K x y H Q ∨ rIxS x y H Q)) := ix_seq
end T3
end

section
set_option autoImplicit false
/-! THE TREE LAYER, part H: membership, built-ins, texts, slices. -/
namespace T3
open PySem PySem.Spec PyProof.Rows L2

/-! ### in -/
/-- in of lists of data, of tuples of flat values, of texts -/
def flatD : D → Bool
  | .none => true
  | .bool _ => false
  | .int _ => true
  | .str _ => true
  | _ => false
def pIn (n : Bool) : D → D → Option Out := fun d e => match e with
  | .list ds => if SeqAt.shaped d = true ∧ SeqAt.shaped (.list ds) = true then oB (n ^^ (ds.any fun z => PyData.eqv z d)) else none
  | .str y => match d with
    | .str x => oB (n ^^ !(Builtin.Str.occurrences y x 0 y.length 1).isEmpty)
    | _ => none
  | _ => none
abbrev rInStr (n : Bool) : R2 := fun x y H Q => ∃ i j, x = .str i ∧ y = .str j ∧ Q (.bl (n ^^ !(Builtin.Str.occurrences j i 0 j.length 1).isEmpty)) H
theorem op_inS {X : Cx} : OpR X (compareOp .In) (rInStr false) := by
  intro pins s σ H x y v u Q I rx ry h
  obtain ⟨i, j, e1, e2, q⟩ := h
  rw [Bool.false_xor] at q
  exact op_in_str pins s σ H x y v u Q I rx ry ⟨i, j, e1, e2, q⟩
theorem op_ninS {X : Cx} : OpR X (compareOp .NotIn) (rInStr true) := by
  intro pins s σ H x y v u Q I rx ry h
  obtain ⟨i, j, e1, e2, q⟩ := h
  rw [Bool.true_xor] at q
  exact op_notin_str pins s σ H x y v u Q I rx ry ⟨i, j, e1, e2, q⟩
theorem op_inA {X : Cx} (hu : X.A.units + 65 < cLine) : OpR X (compareOp .In) (fun x y H Q => rInD X.K x y H Q ∨ rInStr false x y H Q) := (op_inD hu).or op_inS
theorem op_ninA {X : Cx} (hu : X.A.units + 65 < cLine) : OpR X (compareOp .NotIn) (fun x y H Q => rNotInD X.K x y H Q ∨ rInStr true x y H Q) := (op_notInD hu).or op_ninS
theorem rule_in {m : Md} : Rule2 m (fun x y H Q => rInD m.K x y H Q ∨ rInStr false x y H Q) (pIn false) := by
  intro F H x y d e o Q s hx hy ho q
  unfold pIn at ho
  split at ho
  · split at ho
    · rename_i hs
      cases ho
      refine .inl ⟨d, _, hx.dp s hs.1, hy.dp s hs.2, hs.1, hs.2, ?_⟩
      have := q _ (.bl _)
      rwa [Bool.false_xor] at this
    · cases ho
  · split at ho
    · cases ho
      exact .inr ⟨_, _, hx.str, hy.str, q _ (.bl _)⟩
    · cases ho
  · cases ho
theorem rule_nin {m : Md} : Rule2 m (fun x y H Q => rNotInD m.K x y H Q ∨ rInStr true x y H Q) (pIn true) := by
  intro F H x y d e o Q s hx hy ho q
  unfold pIn at ho
  split at ho
  · split at ho
    · rename_i hs
      cases ho
      refine .inl ⟨d, _, hx.dp s hs.1, hy.dp s hs.2, hs.1, hs.2, ?_⟩
      have := q _ (.bl _)
      rwa [Bool.true_xor] at this
    · cases ho
  · split at ho
    · cases ho
      exact .inr ⟨_, _, hx.str, hy.str, q _ (.bl _)⟩
    · cases ho
  · cases ho

/-! ### built-ins -/
def one (f : D → Option Out) : List D → Option Out := fun ds => match ds with
  | [d] => f d
  | _ => none
theorem tpA1 {m : Md} {F H : Hp} {xs : List V} {d : D} (h : TpA m F H xs [d]) : ∃ v, xs = [v] ∧ Tp m F H v d := by
  cases h with
  | cons h1 h2 => cases h2; exact ⟨_, rfl, h1⟩
theorem tpA2 {m : Md} {F H : Hp} {xs : List V} {d e : D} (h : TpA m F H xs [d, e]) : ∃ v u, xs = [v, u] ∧ Tp m F H v d ∧ Tp m F H u e := by
  cases h with
  | cons h1 h2 =>
    cases h2 with
    | cons h3 h4 => cases h4; exact ⟨_, _, rfl, h1, h3⟩
def RuleV (m : Md) (r : List V → Hp → VK → Prop) (op : D → Option Out) : Prop := ∀ F H x d o Q, Sub F H → Tp m F H x d → op d = some o → contO m F H Q o → r [x] H Q
theorem rule_one {m : Md} {r : List V → Hp → VK → Prop} {op : D → Option Out} (h : RuleV m r op) : RuleN m r (one op) := by
  intro F H xs ds o Q s hx ho q
  unfold one at ho
  split at ho
  · obtain ⟨v, rfl, hv⟩ := tpA1 hx
    exact h F H v _ o Q s hv ho q
  · cases ho
def pLen : D → Option Out := fun d => match d with
  | .list ds => some (.fz (.int ds.length))
  | .tuple ds => some (.fz (.int ds.length))
  | .str z => if z.length ≤ line then some (.fz (.int z.length)) else none
  | _ => none
theorem rule_len {m : Md} : RuleV m (fun xs H Q => ∃ x n, xs = [x] ∧ LenV m.K x H n ∧ Q (.int n) H) pLen := by
  intro F H x d o Q s hx ho q
  unfold pLen at ho
  split at ho
  · cases ho
    obtain ⟨a, us, rfl, h1, h2⟩ := hx
    exact ⟨_, _, rfl, .inl ⟨us, h1, h2.length.symm⟩, q _ (.int _)⟩
  · cases ho
    obtain ⟨a, us, rfl, h1, h2⟩ := hx.tup s
    exact ⟨_, _, rfl, .inr ⟨us, h1, h2.length.symm⟩, q _ (.int _)⟩
  · split at ho
    · rename_i hl
      cases ho
      have e := hx.str
      subst e
      exact ⟨_, _, rfl, ⟨by rw [← line_eq]; exact hl, rfl⟩, q _ (.int _)⟩
    · cases ho
  · cases ho
def pAbs : D → Option Out := fun d => match d with
  | .int i => some (.fz (.int (if i < 0 then -i else i)))
  | _ => none
theorem rule_abs {m : Md} : RuleV m (fun xs H Q => ∃ i, xs = [.int i] ∧ Q (.int (if i < 0 then -i else i)) H) pAbs := by
  intro F H x d o Q s hx ho q
  unfold pAbs at ho
  split at ho
  · cases ho
    exact ⟨_, by rw [hx.int], q _ (.int _)⟩
  · cases ho
def pToInt : D → Option Out := fun d => match d with
  | .int i => some (.fz (.int i))
  | .bool b => some (.fz (.int (if b = true then 1 else 0)))
  | _ => none
theorem rule_toInt {m : Md} : RuleV m (fun xs H Q => (∃ i, xs = [.int i] ∧ Q (.int i) H) ∨ ∃ k, xs = [.bl k] ∧ Q (.int (if k then 1 else 0)) H) pToInt := by
  intro F H x d o Q s hx ho q
  unfold pToInt at ho
  split at ho
  · cases ho
    exact .inl ⟨_, by rw [hx.int], q _ (.int _)⟩
  · cases ho
    exact .inr ⟨_, by rw [hx.bl], q _ (.int _)⟩
  · cases ho
def pReprI : D → Option Out := fun d => match d with
  | .int i => if i.natAbs.log2 < 1920 then some (.fz (.str (toString i))) else none
  | _ => none
theorem rule_reprI {m : Md} : RuleV m (fun xs H Q => ∃ i, xs = [.int i] ∧ i.natAbs.log2 < 1920 ∧ Q (.str (toString i)) H) pReprI := by
  intro F H x d o Q s hx ho q
  unfold pReprI at ho
  split at ho
  · split at ho
    · rename_i hl
      cases ho
      exact ⟨_, by rw [hx.int], hl, q _ (.str _)⟩
    · cases ho
  · cases ho
def pList : D → Option Out := fun d => match d with
  | .list ds => some (.nl ds)
  | .tuple ds => some (.nl ds)
  | _ => none
theorem rule_list {m : Md} : RuleV m (fun xs H Q => ∃ p ys, xs = [.ref p] ∧ (SqL m.K H p ys ∨ SqT m.K H p ys) ∧ ∀ l, H l = none → Q (.ref l) (upd H l (.lst ys))) pList := by
  intro F H x d o Q s hx ho q
  unfold pList at ho
  split at ho
  · cases ho
    obtain ⟨a, us, rfl, h1, h2⟩ := hx
    exact ⟨_, _, rfl, .inl (h1), fun l hl => q l _ hl h2⟩
  · cases ho
    obtain ⟨a, us, rfl, h1, h2⟩ := hx.tup s
    exact ⟨_, _, rfl, .inr h1, fun l hl => q l _ hl h2⟩
  · cases ho
def pTuple : D → Option Out := fun d => match d with
  | .list ds => some (.nt ds)
  | .tuple ds => some (.fz (.tuple ds))
  | _ => none
theorem rule_tuple {m : Md} : RuleV m (fun xs H Q => ∃ p ys, xs = [.ref p] ∧ ((SqL m.K H p ys ∧ ∀ l, H l = none → Q (.ref l) (upd H l (.tup ys))) ∨ (SqT m.K H p ys ∧ Q (.ref p) H))) pTuple := by
  intro F H x d o Q s hx ho q
  unfold pTuple at ho
  split at ho
  · cases ho
    obtain ⟨a, us, rfl, h1, h2⟩ := hx
    exact ⟨_, _, rfl, .inl ⟨h1, fun l hl => q l _ hl h2⟩⟩
  · cases ho
    obtain ⟨a, us, rfl, h1, h2⟩ := hx.tup s
    exact ⟨_, _, rfl, .inr ⟨h1, q _ hx⟩⟩
  · cases ho
/-! sums, the least, the greatest of ints -/
def intsOf : List D → Option (List Int)
  | [] => some []
  | .int i :: ds => match intsOf ds with
    | some ns => some (i :: ns)
    | none => none
  | _ :: _ => none
theorem intsOf_vals {m : Md} {F : Hp} : ∀ {vs : List V} {ds : List D} {ns : List Int}, FzA m F vs ds → intsOf ds = some ns → vs = ns.map V.int
  | _, _, _, .nil, e => by cases e; rfl
  | _, d :: ds, ns, .cons h t, e => by
    cases h with
    | int i =>
      dsimp only [intsOf] at e
      split at e
      · cases e
        rw [intsOf_vals t (by assumption)]
        rfl
      · cases e
    | _ => cases e
def minL : List Int → Int
  | [] => 0
  | [x] => x
  | x :: y :: r => min x (minL (y :: r))
def maxL : List Int → Int
  | [] => 0
  | [x] => x
  | x :: y :: r => max x (maxL (y :: r))
theorem minL_le : ∀ (l : List Int) (y : Int), y ∈ l → minL l ≤ y
  | [x], y, h => by simp at h; subst h; exact Int.le_refl _
  | x :: z :: r, y, h => by
    rcases List.mem_cons.mp h with rfl | h
    · exact Int.min_le_left _ _
    · exact Int.le_trans (Int.min_le_right _ _) (minL_le (z :: r) y h)
theorem minL_mem : ∀ (l : List Int), l ≠ [] → minL l ∈ l
  | [], h => absurd rfl h
  | [x], _ => by simp [minL]
  | x :: z :: r, _ => by
    have ih := minL_mem (z :: r) (by simp)
    rw [minL]
    by_cases e : x ≤ minL (z :: r)
    · rw [Int.min_eq_left e]; exact List.mem_cons_self
    · rw [Int.min_eq_right (by omega)]; exact List.mem_cons_of_mem _ ih
theorem le_maxL : ∀ (l : List Int) (y : Int), y ∈ l → y ≤ maxL l
  | [x], y, h => by simp at h; subst h; exact Int.le_refl _
  | x :: z :: r, y, h => by
    rcases List.mem_cons.mp h with rfl | h
    · exact Int.le_max_left _ _
    · exact Int.le_trans (le_maxL (z :: r) y h) (Int.le_max_right _ _)
theorem maxL_mem : ∀ (l : List Int), l ≠ [] → maxL l ∈ l
  | [], h => absurd rfl h
  | [x], _ => by simp [maxL]
  | x :: z :: r, _ => by
    have ih := maxL_mem (z :: r) (by simp)
    rw [maxL]
    by_cases e : maxL (z :: r) ≤ x
    · rw [Int.max_eq_left e]; exact List.mem_cons_self
    · rw [Int.max_eq_right (by omega)]; exact List.mem_cons_of_mem _ ih
theorem max_is {l : List Int} {x : Int} (h : x ∈ l) (h2 : ∀ y, y ∈ l → y ≤ x) : x = maxL l :=
  Int.le_antisymm (le_maxL l x h) (h2 _ (maxL_mem l (List.ne_nil_of_mem h)))
theorem min_is {l : List Int} {x : Int} (h : x ∈ l) (h2 : ∀ y, y ∈ l → x ≤ y) : x = minL l :=
  Int.le_antisymm (h2 _ (minL_mem l (List.ne_nil_of_mem h))) (minL_le l x h)
/-- a tuple of ints walked for its sum, its least -/
abbrev rSumT (K : PySem.W.Frag) : List V → Hp → VK → Prop := fun vs H Q => ∃ (a : Addr) (ns : List Int), vs = [V.ref a] ∧ SqT K H a (ns.map V.int) ∧ Q (.int ns.sum) H
theorem cr_sumT {X : Cx} (hc : X.calm = true) : CallR X (.builtin "sum") (rSumT X.K) := by
  intro pins s σ H vs us Q I r h
  obtain ⟨a, ns, rfl, hs, q⟩ := h
  obtain ⟨its, rv, ht, _⟩ := I.tuple hs
  rw [Vals.ref1 r]
  have hi := rv.ints
  obtain ⟨xs, e⟩ := hi.allInts.items
  have hn : numsOf (intItems xs).toList = ns := by rw [← e]; exact hi.numsOf
  rw [nums_intItems] at hn
  have ht : s.heap.IsTuple a its.toArray := ht
  rw [e] at ht
  refine PySem.W.ktm_sumG (I.ok.hd hc) ht fun h' tk t' hk => ?_
  have e2 : preSum (numAt xs) xs.size = ns.sum := by rw [preSum_eq, List.take_of_length_le (by simp), hn]
  exact ⟨.int ns.sum, H, I.kept hk, ⟨t', by rw [e2]⟩, q⟩
abbrev rMinT (K : PySem.W.Frag) : List V → Hp → VK → Prop := fun vs H Q => ∃ (a : Addr) (ns : List Int), vs = [V.ref a] ∧ SqT K H a (ns.map V.int) ∧ 0 < ns.length ∧ ∀ m, m ∈ ns → (∀ y, y ∈ ns → m ≤ y) → Q (.int m) H
theorem cr_minT {X : Cx} (hc : X.calm = true) : CallR X (.builtin "min") (rMinT X.K) := by
  intro pins s σ H vs us Q I r h
  obtain ⟨a, ns, rfl, hs, hne, q⟩ := h
  obtain ⟨its, rv, ht, _⟩ := I.tuple hs
  rw [Vals.ref1 r]
  have hi := rv.ints
  obtain ⟨xs, e⟩ := hi.allInts.items
  have hn : numsOf (intItems xs).toList = ns := by rw [← e]; exact hi.numsOf
  rw [nums_intItems] at hn
  subst hn
  have ht : s.heap.IsTuple a its.toArray := ht
  rw [e] at ht
  have hsz : 0 < xs.size := by simpa using hne
  obtain ⟨o, ho, hcl, n, hd⟩ := id ht
  have hna : a ≠ s.heap.objs.size := Nat.ne_of_lt (Heap.lt_size ho)
  have hisz : (intItems xs).size = xs.size := by simp [intItems]
  refine call_min_walk (wpAny_pyIter_tuple ht ?_)
  refine ⟨s.heap.objs.size, _, _, _, _, _, _, rfl, Walks.tuple (A := X.A.in1) (I.ok.hd hc) s.heap.objs.size a hna (intItems xs), ⟨⟨_, Heap.get?_push_size _ rfl, rfl, rfl⟩, ht.at fun o e => Heap.get?_push_of_some _ e⟩, fun b hb => ?_, by rw [hisz]; exact hsz, CmpOf.ints_lt (numAt xs) (fun _ _ => intItems_at), fun v h' tk hP hk => ?_⟩
  · rcases List.mem_cons.mp hb with rfl | hb
    · exact Heap.lt_size (Heap.get?_push_size _ rfl)
    · have e3 := List.mem_singleton.mp hb
      subst e3
      exact Heap.lt_size (Heap.get?_push_of_some _ ho)
  · obtain ⟨t, rfl⟩ := intItems_at hP
    rw [hisz]
    obtain ⟨h1, h2⟩ := argBest_lt (numAt xs) (xs.size - 1)
    refine ⟨.int _, H, I.kept fun b o e4 => hk b o (fun hb => absurd (Heap.lt_size e4) ((List.mem_singleton.mp hb) ▸ Nat.lt_irrefl _)) (Heap.get?_push_of_some _ e4), ⟨t, rfl⟩, q _ ?_ fun y hy => ?_⟩
    · rw [numAt_eq]; exact PySem.getD_mem (by rw [List.length_map, Array.length_toList]; omega)
    · obtain ⟨j, hj, rfl⟩ := mem_getD hy
      rw [List.length_map, Array.length_toList] at hj
      rw [← numAt_eq]; exact h2 j (by omega)
theorem CallR.or {X : Cx} {f : Value} {r r' : List V → Hp → VK → Prop} (h : CallR X f r) (h' : CallR X f r') : CallR X f (fun xs H Q => r xs H Q ∨ r' xs H Q) := by
  intro pins s σ H xs us Q I rx q
  rcases q with q | q
  · exact h pins s σ H xs us Q I rx q
  · exact h' pins s σ H xs us Q I rx q
def pSum : List D → Option Out := fun ds => match ds with
  | [.list ds] => match intsOf ds with
    | some ns => some (.fz (.int ns.sum))
    | none => none
  | [.tuple ds] => match intsOf ds with
    | some ns => some (.fz (.int ns.sum))
    | none => none
  | _ => none
theorem rule_sum {m : Md} : RuleN m (fun xs H Q => rSum m.K xs H Q ∨ rSumT m.K xs H Q) pSum := by
  intro F H xs ds o Q s hx ho q
  unfold pSum at ho
  split at ho
  · split at ho
    · rename_i ns hn
      cases ho
      obtain ⟨v, rfl, a, us, rfl, h1, h2⟩ := tpA1 hx
      exact .inl ⟨a, ns, rfl, by rw [← intsOf_vals h2 hn]; exact h1, q _ (.int _)⟩
    · cases ho
  · split at ho
    · rename_i ns hn
      cases ho
      obtain ⟨v, rfl, hv⟩ := tpA1 hx
      obtain ⟨a, us, rfl, h1, h2⟩ := hv.tup s
      exact .inr ⟨a, ns, rfl, by rw [← intsOf_vals h2 hn]; exact h1, q _ (.int _)⟩
    · cases ho
  · cases ho
def pMin : List D → Option Out := fun ds => match ds with
  | [.list ds] => match intsOf ds with
    | some (n :: ns) => some (.fz (.int (minL (n :: ns))))
    | _ => none
  | [.tuple ds] => match intsOf ds with
    | some (n :: ns) => some (.fz (.int (minL (n :: ns))))
    | _ => none
  | [.int i, .int j] => some (.fz (.int (if j < i then j else i)))
  | _ => none
abbrev rMin2 : List V → Hp → VK → Prop := fun xs H Q => ∃ i j, xs = [.int i, .int j] ∧ Q (.int (if j < i then j else i)) H
abbrev rMax2 : List V → Hp → VK → Prop := fun xs H Q => ∃ i j, xs = [.int i, .int j] ∧ Q (.int (if j > i then j else i)) H
theorem rule_min {m : Md} : RuleN m (fun xs H Q => rMin m.K xs H Q ∨ (rMinT m.K xs H Q ∨ rMin2 xs H Q)) pMin := by
  intro F H xs ds o Q s hx ho q
  unfold pMin at ho
  split at ho
  · split at ho
    · rename_i n ns hn
      cases ho
      obtain ⟨v, rfl, a, us, rfl, h1, h2⟩ := tpA1 hx
      exact .inl ⟨a, _, rfl, by rw [← intsOf_vals h2 hn]; exact h1, by simp, fun x h3 h4 => by rw [min_is h3 h4]; exact q _ (.int _)⟩
    · cases ho
  · split at ho
    · rename_i n ns hn
      cases ho
      obtain ⟨v, rfl, hv⟩ := tpA1 hx
      obtain ⟨a, us, rfl, h1, h2⟩ := hv.tup s
      exact .inr (.inl ⟨a, _, rfl, by rw [← intsOf_vals h2 hn]; exact h1, by simp, fun x h3 h4 => by rw [min_is h3 h4]; exact q _ (.int _)⟩)
    · cases ho
  · cases ho
    obtain ⟨v, u, rfl, h1, h2⟩ := tpA2 hx
    exact .inr (.inr ⟨_, _, by rw [h1.int, h2.int], q _ (.int _)⟩)
  · cases ho
def pMax : List D → Option Out := fun ds => match ds with
  | [.list ds] => match intsOf ds with
    | some (n :: ns) => some (.fz (.int (maxL (n :: ns))))
    | _ => none
  | [.int i, .int j] => some (.fz (.int (if j > i then j else i)))
  | _ => none
theorem rule_max {m : Md} : RuleN m (fun xs H Q => rMax m.K xs H Q ∨ rMax2 xs H Q) pMax := by
  intro F H xs ds o Q s hx ho q
  unfold pMax at ho
  split at ho
  · split at ho
    · rename_i n ns hn
      cases ho
      obtain ⟨v, rfl, a, us, rfl, h1, h2⟩ := tpA1 hx
      exact .inl ⟨a, _, rfl, by rw [← intsOf_vals h2 hn]; exact h1, by simp, fun x h3 h4 => by rw [max_is h3 h4]; exact q _ (.int _)⟩
    · cases ho
  · cases ho
    obtain ⟨v, u, rfl, h1, h2⟩ := tpA2 hx
    exact .inr ⟨_, _, by rw [h1.int, h2.int], q _ (.int _)⟩
  · cases ho
theorem cr_sumA {X : Cx} (hc : X.calm = true) : CallR X (.builtin "sum") (fun xs H Q => rSum X.K xs H Q ∨ rSumT X.K xs H Q) := (cr_sum hc).or (cr_sumT hc)
theorem cr_minA {X : Cx} (hc : X.calm = true) : CallR X (.builtin "min") (fun xs H Q => rMin X.K xs H Q ∨ (rMinT X.K xs H Q ∨ rMin2 xs H Q)) := (cr_min hc).or ((cr_minT hc).or (call_min2 hc))
theorem cr_maxA {X : Cx} (hc : X.calm = true) : CallR X (.builtin "max") (fun xs H Q => rMax X.K xs H Q ∨ rMax2 xs H Q) := (cr_max hc).or (call_max2 hc)
def boolsOf : List D → Option (List Bool)
  | [] => some []
  | .bool b :: ds => match boolsOf ds with
    | some bs => some (b :: bs)
    | none => none
  | _ :: _ => none
theorem boolsOf_vals {m : Md} {F : Hp} : ∀ {vs : List V} {ds : List D} {ns : List Bool}, FzA m F vs ds → boolsOf ds = some ns → vs = ns.map V.bl
  | _, _, _, .nil, e => by cases e; rfl
  | _, d :: ds, ns, .cons h t, e => by
    cases h with
    | bl i =>
      dsimp only [boolsOf] at e
      split at e
      · cases e
        rw [boolsOf_vals t (by assumption)]
        rfl
      · cases e
    | _ => cases e
def pAny : List D → Option Out := fun ds => match ds with
  | [.list ds] => match boolsOf ds with
    | some bs => oB (bs.any id)
    | none => none
  | _ => none
def pAll : List D → Option Out := fun ds => match ds with
  | [.list ds] => match boolsOf ds with
    | some bs => oB (bs.all id)
    | none => none
  | _ => none
theorem rule_any {m : Md} : RuleN m (rAny m.K) pAny := by
  intro F H xs ds o Q s hx ho q
  unfold pAny at ho
  split at ho
  · split at ho
    · rename_i bs hn
      cases ho
      obtain ⟨v, rfl, a, us, rfl, h1, h2⟩ := tpA1 hx
      exact ⟨a, _, rfl, by rw [← boolsOf_vals h2 hn]; exact h1, q _ (.bl _)⟩
    · cases ho
  · cases ho
theorem rule_all {m : Md} : RuleN m (rAll m.K) pAll := by
  intro F H xs ds o Q s hx ho q
  unfold pAll at ho
  split at ho
  · split at ho
    · rename_i bs hn
      cases ho
      obtain ⟨v, rfl, a, us, rfl, h1, h2⟩ := tpA1 hx
      exact ⟨a, _, rfl, by rw [← boolsOf_vals h2 hn]; exact h1, q _ (.bl _)⟩
    · cases ho
  · cases ho

/-! ### methods of texts -/
def RuleMt (m : Md) (T : String) (r : V → List V → Hp → VK → Prop) (op : D → List D → Option Out) : Prop := ∀ F H x d xs ds o Q, Sub F H → Tp m F H x d → TpA m F H xs ds → op d ds = some o → contO m F H Q o → r x xs H Q
/-- a method of a text, by values -/
def opMt (op : D → List D → Option Out) (f : EX) (g : AX) : EX := fun env => match rd f env with
  | .ok (.fz (.str z)) e1 => match g e1 with
    | .ok as e2 => match getA e2 as with
      | some xs => appO (op (.str z) xs) e2
      | none => .bad
    | .exc n i e => .exc n i e
    | .bad => .bad
  | .exc n i e => .exc n i e
  | _ => .bad
theorem tX_mt {m : Md} {k : Kx} {r : V → List V → Hp → VK → Prop} {op : D → List D → Option Out} {f : EX} {g : AX} {σ : L2.St} {H : Hp} {Q : VK} (rule : RuleMt m "str" r op) (h : tX m k (opMt op f g) σ H Q) :
    tBM m.K "str" r (tR m k f) (tAX m k g) σ H Q := by
  obtain ⟨c, F, env, hm, R, q⟩ := h
  refine ⟨c, F, env, hm, R, ?_⟩
  unfold opMt at q
  cases e1 : rd f env with
  | bad => rw [e1] at q; exact q
  | exc n i e => rw [e1] at q; exact q
  | ok a ea =>
    rw [e1] at q
    cases a with
    | sl i => exact q.elim
    | ow d => exact q.elim
    | fz d =>
      cases d with
      | str z =>
        intro F' H' v s R1 hv
        have hv : Fz m F' v (.str z) := hv
        have ev : v = .str z := by cases hv; rfl
        subst ev
        refine ⟨rfl, c, F', _, hm, R1, ?_⟩
        dsimp only at q
        cases e2 : g ea with
        | bad => rw [e2] at q; exact q
        | exc n i e => rw [e2] at q; exact fun F2 H2 s2 R2 => q F2 H2 (s.trans s2) R2
        | ok as eb =>
          rw [e2] at q
          intro F2 H2 vs s2 R2 z2
          dsimp only at q
          split at q
          · rename_i xs hxs
            obtain ⟨o, ho, hc⟩ := post_app R2 (postX.mono (s.trans s2) q)
            exact rule F2 H2 _ _ vs xs o Q R2.sub (Tp.of R2.sub (.str z)) (getA_tp R2 z2 hxs) ho hc
          · exact q.elim
      | _ => exact q.elim
section
variable {X : Cx} {k : Kx} {o e : Expr} {es : List Expr} {f : EX} {g : AX} {name : Str} {apos cpos : Pos} {id : String} {r : V → List V → Hp → VK → Prop} {op : D → List D → Option Out}
theorem px_mtS (slot : PySem.Slot "str" name id) (hty : typeOf (.builtin id) = pure (.type "method_descriptor")) (hm : MtR X id r) (rule : RuleMt (mdOf X) "str" r op) (ho : PX X k o f) (ha : PAX X k (e :: es) g)
    (hbase : attributeBase o name X.env (eval o X.env) = eval o X.env := by rfl)
    (hfew : ((backTo cpos (starEach (e :: es) X.env)).all (fun x => !x.1) && (backToKw cpos (keywordEach [] X.env)).all (fun x => x.1.isSome)
      && decide ((e :: es).length + ([] : List Keyword).length + (if ([] : List Keyword).isEmpty then 0 else 1) < 30)) = true := by rfl)
    (hline : (apos.endLine == cpos.line) = true := by rfl) (hs : starEach (e :: es) X.env = (false, eval e X.env) :: starEach es X.env := by rfl) (hplain : (backTo cpos (starEach es X.env)).any (·.1) = false := by rfl) :
    PX X k (.Call (.Attribute o name apos) (e :: es) [] cpos) (opMt op f g) :=
  imp (pe_bm PySem.F.plainAttrs_str slot hty hm ho.rd ha hbase hfew hline hs hplain) fun _ _ _ q => tX_mt rule q
theorem px_mtS0 (slot : PySem.Slot "str" name id) (hty : typeOf (.builtin id) = pure (.type "method_descriptor")) (hm : MtR X id r) (rule : RuleMt (mdOf X) "str" r op) (ho : PX X k o f)
    (hbase : attributeBase o name X.env (eval o X.env) = eval o X.env := by rfl) (hline : (apos.endLine == cpos.line) = true := by rfl) :
    PX X k (.Call (.Attribute o name apos) [] [] cpos) (opMt op f aNil) :=
  imp (pe_bm0 PySem.F.plainAttrs_str slot hty hm ho.rd hbase hline) fun σ H Q q => by
    obtain ⟨c, F, env, hm2, R, q⟩ := tX_mt rule q
    refine ⟨c, F, env, hm2, R, ?_⟩
    cases e1 : rd f env with
    | bad => rw [e1] at q; exact q
    | exc n i e => rw [e1] at q; exact q
    | ok a ea =>
      rw [e1] at q
      intro F' H' v s R1 z
      obtain ⟨h1, c2, F2, env2, hm3, R2, h2⟩ := q F' H' v s R1 z
      exact ⟨h1, h2 F2 H' [] (Same.refl _) R2 .nil⟩
end
def pSIndex : D → List D → Option Out := fun d xs => match d, xs with
  | .str a, [.str b] => match Builtin.Str.occurrences a b 0 a.length 1 with
    | i :: _ => some (.fz (.int (i : Nat)))
    | [] => none
  | _, _ => none
theorem rule_sindex {m : Md} : RuleMt m "str" (fun x xs H Q => ∃ a b i rest, x = .str a ∧ xs = [.str b] ∧ Builtin.Str.occurrences a b 0 a.length 1 = i :: rest ∧ Q (.int (i : Nat)) H) pSIndex := by
  intro F H x d xs ds o Q s hx hxs ho q
  unfold pSIndex at ho
  split at ho
  · split at ho
    · rename_i hi
      cases ho
      obtain ⟨v, rfl, hv⟩ := tpA1 hxs
      exact ⟨_, _, _, _, hx.str, by rw [hv.str], hi, q _ (.int _)⟩
    · cases ho
  · cases ho
def pSCount : D → List D → Option Out := fun d xs => match d, xs with
  | .str a, [.str b] => some (.fz (.int (Txt.count a b)))
  | _, _ => none
theorem rule_scount {m : Md} : RuleMt m "str" (fun x xs H Q => ∃ a b, x = .str a ∧ xs = [.str b] ∧ Q (.int (Txt.count a b)) H) pSCount := by
  intro F H x d xs ds o Q s hx hxs ho q
  unfold pSCount at ho
  split at ho
  · cases ho
    obtain ⟨v, rfl, hv⟩ := tpA1 hxs
    exact ⟨_, _, hx.str, by rw [hv.str], q _ (.int _)⟩
  · cases ho
def pSCase (f : Str → Str) : D → List D → Option Out := fun d xs => match d, xs with
  | .str a, [] => if a.length ≤ 5592405 then some (.fz (.str (f a))) else none
  | _, _ => none
theorem rule_scase {m : Md} {f : Str → Str} : RuleMt m "str" (fun x xs H Q => ∃ a, x = .str a ∧ xs = [] ∧ a.length ≤ 5592405 ∧ Q (.str (f a)) H) (pSCase f) := by
  intro F H x d xs ds o Q s hx hxs ho q
  unfold pSCase at ho
  split at ho
  · split at ho
    · cases ho
      cases hxs
      exact ⟨_, hx.str, rfl, by assumption, q _ (.str _)⟩
    · cases ho
  · cases ho

/-! ### slices -/
abbrev PartX := En → R (Option Int)
def ptNone : PartX := fun env => .ok none env
def ptSome (f : EX) : PartX := fun env => match rd f env with
  | .ok (.fz (.int i)) e => .ok (some i) e
  | .exc n i e => .exc n i e
  | _ => .bad
def postP (m : Md) (k : Kx) (c : Cn) (F : Hp) (σ : L2.St) (Q : Option Int → Hp → Prop) : R (Option Int) → Prop
  | .ok i e => ∀ F' H', Sub F F' → Rl m c F' σ H' e → Q i H'
  | .exc n i e => ∀ F' H', Sub F F' → Rl m c F' σ H' e → k.W n i σ H'
  | .bad => False
def tP (m : Md) (k : Kx) (f : PartX) : TO := fun σ H Q => ∃ c F env, c.M.map (·.1) = k.ms ∧ Rl m c F σ H env ∧ postP m k c F σ Q (f env)
abbrev POX (X : Cx) (k : Kx) (e : Option Expr) (f : PartX) : Prop := PO X e (tP (mdOf X) k f)
theorem impP {X : Cx} {e : Option Expr} {t t' : TO} (h : PO X e t) (hi : ∀ σ H Q, t' σ H Q → t σ H Q) : PO X e t' := ⟨fun pins s σ H Q I q => h.run pins s σ H Q I (hi σ H Q q)⟩
theorem pox_none {X : Cx} {k : Kx} : POX X k none ptNone := impP po_none fun σ H Q ⟨c, F, env, hm, R, q⟩ => q F H (Same.refl _) R
theorem pox_some {X : Cx} {k : Kx} {e : Expr} {f : EX} (h : PX X k e f) : POX X k (some e) (ptSome f) := impP (po_some h.rd) fun σ H Q ⟨c, F, env, hm, R, q⟩ => by
  refine ⟨c, F, env, hm, R, ?_⟩
  unfold ptSome at q
  cases e1 : T3.rd f env with
  | bad => rw [e1] at q; exact q
  | exc n i e => rw [e1] at q; exact q
  | ok a ea =>
    rw [e1] at q
    cases a with
    | sl i => exact q.elim
    | ow d => exact q.elim
    | fz d =>
      cases d with
      | int z =>
        intro F' H' v s R1 hv
        have hv : Fz (mdOf X) F' v (.int z) := hv
        cases hv
        exact ⟨_, rfl, q F' H' s R1⟩
      | _ => exact q.elim
def cut {α : Type} (xs : List α) (lo hi : Option Int) : List α := (xs.drop (HT.sIx xs.length 0 lo)).take (HT.sIx xs.length xs.length hi - HT.sIx xs.length 0 lo)
def pSl : D → Option Int → Option Int → Option Out := fun d lo hi => match d with
  | .list ds => some (.nl (cut ds lo hi))
  | .tuple ds => some (if HT.sIx ds.length 0 lo = 0 ∧ HT.sIx ds.length ds.length hi = ds.length then .fz (.tuple ds) else .nt (cut ds lo hi))
  | .str z => if z.length ≤ line then some (.fz (.str (cutS z lo hi))) else none
  | _ => none
def opSl (f : EX) (l u : PartX) : EX := fun env => match rd f env with
  | .ok a e1 => match l e1 with
    | .ok lo e2 => match u e2 with
      | .ok hi e3 => match a.get e3 with
        | some d => appO (pSl d lo hi) e3
        | none => .bad
      | .exc n i e => .exc n i e
      | .bad => .bad
    | .exc n i e => .exc n i e
    | .bad => .bad
  | r => r
theorem cutV_cut {xs : List V} {lo hi : Option Int} : cutV xs lo hi = cut xs lo hi := rfl
theorem FzA.cut {m : Md} {F : Hp} {vs : List V} {ds : List D} {lo hi : Option Int} (h : FzA m F vs ds) : FzA m F (cutV vs lo hi) (T3.cut ds lo hi) := by
  unfold cutV T3.cut
  rw [h.length]
  exact (h.drop _).take _
abbrev rSlAll (K : PySem.W.Frag) : V → Option Int → Option Int → Hp → VK → Prop := fun x lo hi H Q => rSlL K x lo hi H Q ∨ (rSlA K x lo hi H Q ∨ rSlS x lo hi H Q)
theorem rule_sl {m : Md} {F H : Hp} {x : V} {d : D} {lo hi : Option Int} {o : Out} {Q : VK} (s : Sub F H) (hx : Tp m F H x d) (ho : pSl d lo hi = some o) (q : contO m F H Q o) : rSlAll m.K x lo hi H Q := by
  unfold pSl at ho
  split at ho
  · cases ho
    obtain ⟨a, us, rfl, h1, h2⟩ := hx
    exact .inl ⟨a, us, rfl, h1, fun p hp => q p _ hp h2.cut⟩
  · rename_i ds
    cases ho
    obtain ⟨a, us, rfl, h1, h2⟩ := hx.tup s
    refine .inr (.inl ⟨a, us, rfl, h1, fun e => ?_, fun e p hp => ?_⟩)
    · rw [h2.length] at e
      rw [if_pos e] at q
      exact q _ hx
    · rw [h2.length] at e
      rw [if_neg e] at q
      exact q p _ hp h2.cut
  · split at ho
    · rename_i hl
      cases ho
      exact .inr (.inr ⟨_, hx.str, by rw [← line_eq]; exact hl, q _ (.str _)⟩)
    · cases ho
  · cases ho
theorem px_sl {X : Cx} {k : Kx} {e : Expr} {f : EX} {lo hi : Option Expr} {l u : PartX} {p2 pos : Pos} (he : PX X k e f) (hl : POX X k lo l) (hu : POX X k hi u) : PX X k (.Subscript e (.Slice lo hi none p2) pos) (opSl f l u) :=
  imp (pe_slice (sl_list.or (sl_tupA.or sl_str)) he.rd hl hu) fun σ H Q ⟨c, F, env, hm, R, q⟩ => by
    refine ⟨c, F, env, hm, R, ?_⟩
    unfold opSl at q
    cases e1 : T3.rd f env with
    | bad => rw [e1] at q; exact q
    | exc n i e => rw [e1] at q; exact q
    | ok a ea =>
      rw [e1] at q
      intro F' H' v s R1 z
      refine ⟨c, F', ea, hm, R1, ?_⟩
      dsimp only at q
      cases e2 : l ea with
      | bad => rw [e2] at q; exact q
      | exc n i e => rw [e2] at q; exact fun F2 H2 s2 R2 => q F2 H2 (s.trans s2) R2
      | ok lo' eb =>
        rw [e2] at q
        intro F2 H2 s2 R2
        refine ⟨c, F2, eb, hm, R2, ?_⟩
        dsimp only at q
        cases e3 : u eb with
        | bad => rw [e3] at q; exact q
        | exc n i e => rw [e3] at q; exact fun F3 H3 s3 R3 => q F3 H3 ((s.trans s2).trans s3) R3
        | ok hi' ec =>
          rw [e3] at q
          intro F3 H3 s3 R3
          dsimp only at q
          cases g1 : a.get ec with
          | none => rw [g1] at q; exact q.elim
          | some d =>
            rw [g1] at q
            obtain ⟨o, ho, hc⟩ := post_app R3 (postX.mono ((s.trans s2).trans s3) q)
            exact rule_sl R3.sub ((z.mono (s2.trans s3)).tp R3 g1) ho hc
end T3
end

section
set_option autoImplicit false
/-! THE TREE LAYER, part I: what is walked; comprehensions. -/
namespace T3
open PySem PySem.Spec PyProof.Rows L2

/-! ### what is walked -/
def signs (x : Str) : List D := x.cps.toList.map fun c => .str ⟨#[c]⟩
def itemsOf : D → Option (List D)
  | .list ds => some ds
  | .tuple ds => some ds
  | .str x => some (signs x)
  | _ => none
def iSeq (ms : List Nat) (f : EX) : IX := fun env => match fz ms f env with
  | .ok (.fz d) e => match itemsOf d with
    | some ds => .ok ds e
    | none => .bad
  | .exc n i e => .exc n i e
  | _ => .bad
section
variable {m : Md} {F : Hp} {ds : List D}
theorem it_list {a : Addr} {xs : List V} (h : SqL m.K F a xs) (z : FzA m F xs ds) : ItOk m F (Itl m.K a) ds where
  go := fun i H s hi => by
    have hl : i < xs.length := by rw [z.length]; exact hi
    exact ⟨xs, xs[i], sqL_mono s h, List.getElem?_eq_getElem hl⟩
  stop := fun i H s hi => ⟨xs, sqL_mono s h, by rw [z.length]; exact hi⟩
  yld := fun i H x H' d s hd y => by
    obtain ⟨e, y⟩ := y
    obtain ⟨v, h1, h2⟩ := z.get hd
    have e2 := y xs (sqL_mono s h)
    rw [h1] at e2; cases e2
    exact .inl ⟨e, h2⟩
theorem it_tup {a : Addr} {xs : List V} (h : SqT m.K F a xs) (z : FzA m F xs ds) : ItOk m F (Itt m.K a) ds where
  go := fun i H s hi => by
    have hl : i < xs.length := by rw [z.length]; exact hi
    exact ⟨xs, xs[i], sqT_mono s h, List.getElem?_eq_getElem hl⟩
  stop := fun i H s hi => ⟨xs, sqT_mono s h, by rw [z.length]; exact hi⟩
  yld := fun i H x H' d s hd y => by
    obtain ⟨e, y⟩ := y
    obtain ⟨v, h1, h2⟩ := z.get hd
    have e2 := y xs (sqT_mono s h)
    rw [h1] at e2; cases e2
    exact .inl ⟨e, h2⟩
theorem it_str {x : Str} : ItOk m F (Its x) (signs x) where
  go := fun i H s hi => by
    unfold signs at hi
    rw [List.length_map, Array.length_toList] at hi
    exact hi
  stop := fun i H s hi => by
    unfold signs at hi
    rw [List.length_map, Array.length_toList] at hi
    exact hi
  yld := fun i H v H' d s hd y => by
    obtain ⟨e, c, h1, h2⟩ := y
    subst h2
    unfold signs at hd
    rw [List.getElem?_map, Array.getElem?_toList, h1] at hd
    cases hd
    exact .inl ⟨e, .str _⟩
theorem it_range {lo : Int} {n : Nat} : ItOk m F (Itr lo n) ((List.range n).map fun i => .int (lo + (i : Nat))) where
  go := fun i H s hi => by
    rw [List.length_map, List.length_range] at hi
    exact hi
  stop := fun i H s hi => by
    rw [List.length_map, List.length_range] at hi
    exact hi
  yld := fun i H v H' d s hd y => by
    obtain ⟨e, h1⟩ := y
    subst h1
    rw [List.getElem?_map] at hd
    cases q : (List.range n)[i]? with
    | none => rw [q] at hd; cases hd
    | some j =>
      rw [q] at hd
      cases hd
      obtain ⟨h2, h3⟩ := List.getElem?_eq_some_iff.mp q
      rw [List.getElem_range] at h3
      subst h3
      exact .inl ⟨e, .int _⟩
end
section
variable {X : Cx} {k : Kx} {tg e : Expr} {f : EX}
/-- a list, a tuple, a text -/
theorem pix_seq (he : PX X k e f) : PIX X k tg e (iSeq k.ms f) := by
  refine ⟨fun pins s σ H R I h => ?_⟩
  obtain ⟨c, F, env, hm, R0, q⟩ := h
  unfold iSeq at q
  have he' := he.fz
  cases e1 : fz k.ms f env with
  | bad => rw [e1] at q; exact q.elim
  | exc n i e' =>
    rw [e1] at q
    exact thn (he'.run pins s σ H (fun _ _ => False) I ⟨c, F, env, hm, R0, by rw [e1]; exact q⟩) fun v s1 ⟨x, H1, I1, r1, z⟩ => z.elim
  | ok r e' =>
    rw [e1] at q
    cases r with
    | sl j => exact q.elim
    | ow d => exact q.elim
    | fz d =>
      dsimp only at q
      split at q
      · rename_i ds hds
        refine thn (he'.run pins s σ H (fun v H1 => ∃ F1, Sub F F1 ∧ Rl (mdOf X) c F1 σ H1 e' ∧ Fz (mdOf X) F1 v d) I ⟨c, F, env, hm, R0, by rw [e1]; exact fun F' H' v s' R' z => ⟨F', s', R', z⟩⟩) fun v s1 ⟨x, H1, I1, r1, F1, s1', R1, z⟩ => ?_
        cases d with
        | list es =>
          cases hds
          cases z with
          | lst h1 h2 =>
            rename_i a xs
            cases r1
            obtain ⟨its, rv, p, hz⟩ := I1.list (sqL_mono R1.sub h1)
            refine wpAny_pyIter_list p.isList ?_
            refine ⟨s1.heap.objs.size, [s1.heap.objs.size], _, _, H1, rfl, I1.kept (t' := s1.toks) fun b o e => Heap.get?_push_of_some _ e, turn_list a _, ⟨_, Heap.get?_push_size _ rfl, rfl, rfl⟩, fun b hb => ?_, q F1 H1 _ s1' R1 (it_list h1 h2)⟩
            have e := List.mem_singleton.mp hb
            subst e
            exact I1.fpOk (Nat.le_refl _) I1.fresh
        | tuple es =>
          cases hds
          cases z with
          | tup h1 h2 =>
            rename_i a xs
            cases r1
            obtain ⟨its, rv, p, hz⟩ := I1.tuple (sqT_mono R1.sub h1)
            refine wpAny_pyIter_tuple (show s1.heap.IsTuple a its.toArray from p) ?_
            refine ⟨s1.heap.objs.size, [s1.heap.objs.size], _, _, H1, rfl, I1.kept (t' := s1.toks) fun b o e => Heap.get?_push_of_some _ e, turn_tuple a _, ⟨_, Heap.get?_push_size _ rfl, rfl, rfl⟩, fun b hb => ?_, q F1 H1 _ s1' R1 (it_tup h1 h2)⟩
            have e := List.mem_singleton.mp hb
            subst e
            exact I1.fpOk (Nat.le_refl _) I1.fresh
        | str y =>
          cases hds
          cases z
          obtain ⟨t, rfl⟩ := r1
          have q1 := q F1 H1 (Its y) s1' R1 it_str
          cases ha : y.cps.all (· < 128)
          · exact wpAny_pyIter_wide ha (pi_one (tk := s1.toks) I1 _ (turn_str _ y t "str_iterator" (.inr rfl)) ⟨_, Heap.get?_push_size _ rfl, rfl, rfl⟩ q1)
          · exact wpAny_pyIter_ascii ha (pi_one (tk := s1.toks) I1 _ (turn_str _ y t "str_ascii_iterator" (.inl rfl)) ⟨_, Heap.get?_push_size _ rfl, rfl, rfl⟩ q1)
        | none => cases hds
        | bool _ => cases hds
        | int _ => cases hds
        | dict _ => cases hds
      · exact q.elim
end
def fit62 (j : Int) : Bool := decide (-(2 ^ 62) ≤ j) && decide (j < 2 ^ 62)
theorem fit62_ok {j : Int} (h : fit62 j = true) : -(2 ^ 62) ≤ j ∧ j < 2 ^ 62 := by
  unfold fit62 at h
  simpa using h
theorem fit62_nat {n : Nat} (h : n ≤ 1000000) : fit62 (n : Int) = true := by
  unfold fit62
  rw [decide_eq_true (by omega), decide_eq_true (by omega)]
  rfl
theorem fit62_int {n : Int} (h : -1000000 ≤ n) (h2 : n ≤ 1000000) : fit62 n = true := by
  unfold fit62
  rw [decide_eq_true (by omega), decide_eq_true (by omega)]
  rfl
def rangeD (lo hi : Int) : List D := (List.range (hi - lo).toNat).map fun i => .int (lo + (i : Nat))
def iRange1 (f : EX) : IX := fun env => match rd f env with
  | .ok (.fz (.int j)) e => if fit62 j = true then .ok (rangeD 0 j) e else .bad
  | .exc n i e => .exc n i e
  | _ => .bad
def iRange2 (f g : EX) : IX := fun env => match rd f env with
  | .ok (.fz (.int i)) e => match rd g e with
    | .ok (.fz (.int j)) e2 => if fit62 i = true ∧ fit62 j = true then .ok (rangeD i j) e2 else .bad
    | .exc n i e => .exc n i e
    | _ => .bad
  | .exc n i e => .exc n i e
  | _ => .bad
theorem Fz.int' {m : Md} {F : Hp} {v : V} {i : Int} (h : Fz m F v (.int i)) : v = .int i := by cases h; rfl
section
variable {X : Cx} {k : Kx} {tg a b : Expr} {f g : EX} {p pos : Pos}
theorem pix_range1 (ha : PX X k a f) (hm : X.mg "range" = none) (hg : Gl X "range" := by rfl) (hs : starEach [a] X.env = [(false, eval a X.env)] := by rfl) (hs2 : starEach [a] X.env = (false, eval a X.env) :: starEach [] X.env := by rfl) : PIX X k tg (.Call (.Name "range" p) [a] [] pos) (iRange1 f) :=
  impI (pi_range1 hg hm (pa_cons ha.rd pa_nil hs2) hs) fun σ H Q ⟨c, F, env, hmm, R, q⟩ => by
    refine ⟨c, F, env, hmm, R, ?_⟩
    unfold iRange1 at q
    cases e1 : rd f env with
    | bad => rw [e1] at q; exact q
    | exc n i e => rw [e1] at q; exact q
    | ok r e =>
      rw [e1] at q
      cases r with
      | sl j => exact q.elim
      | ow d => exact q.elim
      | fz d =>
        cases d with
        | int j =>
          dsimp only at q
          split at q
          · rename_i hj
            have hj := fit62_ok hj
            intro F' H' v s R' z
            have e2 := Fz.int' z
            subst e2
            refine ⟨j, rfl, hj.1, hj.2, q F' H' _ s R' ?_⟩
            have := it_range (m := mdOf X) (F := F') (lo := 0) (n := j.toNat)
            unfold rangeD
            rw [Int.sub_zero]
            exact this
          · exact q.elim
        | _ => exact q.elim
theorem pix_range2 (ha : PX X k a f) (hb : PX X k b g) (hm : X.mg "range" = none) (hg : Gl X "range" := by rfl) (hs : starEach [a, b] X.env = [(false, eval a X.env), (false, eval b X.env)] := by rfl) (hs2 : starEach [b] X.env = [(false, eval b X.env)] := by rfl)
    (hs3 : starEach [b] X.env = (false, eval b X.env) :: starEach [] X.env := by rfl) (hs4 : starEach [a, b] X.env = (false, eval a X.env) :: starEach [b] X.env := by rfl) : PIX X k tg (.Call (.Name "range" p) [a, b] [] pos) (iRange2 f g) :=
  impI (pi_range2 hg hm (pa_cons ha.rd (pa_cons hb.rd pa_nil hs3) hs4) hs hs2) fun σ H Q ⟨c, F, env, hmm, R, q⟩ => by
    refine ⟨c, F, env, hmm, R, ?_⟩
    unfold iRange2 at q
    cases e1 : rd f env with
    | bad => rw [e1] at q; exact q
    | exc n i e => rw [e1] at q; exact q
    | ok r e =>
      rw [e1] at q
      cases r with
      | sl j => exact q.elim
      | ow d => exact q.elim
      | fz d =>
        cases d with
        | int i =>
          intro F' H' v s R' z
          refine ⟨c, F', e, hmm, R', ?_⟩
          dsimp only at q
          cases e2 : rd g e with
          | bad => rw [e2] at q; exact q
          | exc n i e => rw [e2] at q; exact fun F2 H2 s2 R2 => q F2 H2 (s.trans s2) R2
          | ok r eb =>
            rw [e2] at q
            cases r with
            | sl j => exact q.elim
            | ow d => exact q.elim
            | fz d =>
              cases d with
              | int j =>
                dsimp only at q
                split at q
                · rename_i hj
                  have hj : -(2 ^ 62) ≤ i ∧ i < 2 ^ 62 ∧ -(2 ^ 62) ≤ j ∧ j < 2 ^ 62 := ⟨(fit62_ok hj.1).1, (fit62_ok hj.1).2, fit62_ok hj.2⟩
                  intro F2 H2 v2 s2 R2 z2
                  have e3 := Fz.int' z
                  have e4 := Fz.int' z2
                  subst e3 e4
                  exact ⟨i, j, rfl, hj, q F2 H2 _ (s.trans s2) R2 it_range⟩
                · exact q.elim
              | _ => exact q.elim
        | _ => exact q.elim
end

/-! ### a block's own slots -/
def clr (v : Nat) (e : En) : Option En := match e[v]? with
  | some (.ow _) => none
  | some (.rl _) => none
  | _ => some (e.set v .non)
def wipeE : List Nat → En → Option En
  | [], e => some e
  | v :: vs, e => match wipeE vs e with
    | some e1 => clr v e1
    | none => none
def back (e0 : En) : List Nat → En → En
  | [], e => e
  | v :: vs, e => back e0 vs (e.set v (e0.getD v .non))
section
variable {m : Md} {c : Cn} {F F' H H' : Hp} {σ τ : L2.St} {e e' e0 : En}
theorem Rl.clr (R : Rl m c F σ H e) {v : Nat} (h : T3.clr v e = some e') : Rl m c F (σ.set v none) H e' := by
  have hno : ∀ d, e[v]? ≠ some (.ow d) := fun d z => by
    unfold T3.clr at h; rw [z] at h; cases h
  have e1 : e' = e.set v .non := by
    unfold T3.clr at h
    split at h
    · cases h
    · cases h
    · exact (Option.some.inj h).symm
  subst e1
  have ows : ∀ (i : Nat) (d : D), (e.set v .non)[i]? = some (.ow d) → i ≠ v ∧ e[i]? = some (.ow d) := fun i d z => by
    rcases set_get z with ⟨_, z⟩ | z
    · cases z
    · exact z
  exact
    { sub := R.sub, ext := R.ext, new := R.new, keep := R.keep, len := by rw [List.length_set, List.length_set]; exact R.len
      slot := fun i s z => by
        rcases set_get z with ⟨rfl, rfl⟩ | ⟨hi, z⟩
        · have hl : i < σ.length := by
            rw [← R.len]
            have := (List.getElem?_eq_some_iff.mp z).1
            rwa [List.length_set] at this
          exact ⟨none, List.getElem?_set_self hl, trivial⟩
        · obtain ⟨ov, h1, h2⟩ := R.slot i s z
          exact ⟨ov, by rw [List.getElem?_set_ne (Ne.symm hi)]; exact h1, h2⟩
      dis := fun i j d d' r z1 z2 z3 z4 => by
        obtain ⟨hi, y1⟩ := ows _ _ z1
        obtain ⟨hj, y2⟩ := ows _ _ z2
        rw [List.getElem?_set_ne (Ne.symm hi)] at z3
        rw [List.getElem?_set_ne (Ne.symm hj)] at z4
        exact R.dis i j d d' r y1 y2 z3 z4
      mrt := fun p hp => by
        obtain ⟨h1, d, h2⟩ := R.mrt p hp
        have hne : v ≠ p.1 := fun z => hno d (by rw [z]; exact h2)
        exact ⟨by rw [List.getElem?_set_ne hne]; exact h1, d, by rw [List.getElem?_set_ne hne]; exact h2⟩
      pin := fun q hq => by
        obtain ⟨h1, h2, h3⟩ := R.pin q hq
        refine ⟨h1, h2, fun i d z => ?_⟩
        obtain ⟨hi, y⟩ := ows _ _ z
        rw [List.getElem?_set_ne (Ne.symm hi)]
        exact h3 i d y }
theorem Rl.wipe : ∀ {vs : List Nat} {e' : En}, Rl m c F σ H e → wipeE vs e = some e' → Rl m c F (L2.wipe σ vs) H e'
  | [], _, R, h => by cases h; exact R
  | v :: vs, e', R, h => by
    unfold wipeE at h
    split at h
    · rename_i e1 h1
      exact (Rl.wipe R h1).clr h
    · cases h
/-- one slot comes back -/
theorem Rl.back1 {v : Nat} {s : Slot} {ov : Option V} (R : Rl m c F' (τ.set v none) H' e') (hτ : τ[v]? = some ov) (hs : SlotR m c F' H' ov s) (hno : ∀ d, s ≠ .ow d) : Rl m c F' τ H' (e'.set v s) := by
  have hv : v < τ.length := (List.getElem?_eq_some_iff.mp hτ).1
  have ows : ∀ (i : Nat) (d : D), (e'.set v s)[i]? = some (.ow d) → i ≠ v ∧ e'[i]? = some (.ow d) := fun i d z => by
    rcases set_get z with ⟨_, z⟩ | z
    · exact absurd z.symm (hno d)
    · exact z
  exact
    { sub := R.sub, ext := R.ext, new := R.new, keep := R.keep, len := by rw [List.length_set]; have := R.len; rwa [List.length_set] at this
      slot := fun i s' z => by
        rcases set_get z with ⟨rfl, rfl⟩ | ⟨hi, z⟩
        · exact ⟨ov, hτ, hs⟩
        · obtain ⟨ov', h1, h2⟩ := R.slot i s' z
          rw [List.getElem?_set_ne (Ne.symm hi)] at h1
          exact ⟨ov', h1, h2⟩
      dis := fun i j d d' r z1 z2 z3 z4 => by
        obtain ⟨hi, y1⟩ := ows _ _ z1
        obtain ⟨hj, y2⟩ := ows _ _ z2
        exact R.dis i j d d' r y1 y2 (by rw [List.getElem?_set_ne (Ne.symm hi)]; exact z3) (by rw [List.getElem?_set_ne (Ne.symm hj)]; exact z4)
      mrt := fun p hp => by
        obtain ⟨h1, d, h2⟩ := R.mrt p hp
        have hne : v ≠ p.1 := fun z => by
          subst z
          rw [List.getElem?_set_self hv] at h1
          cases h1
        rw [List.getElem?_set_ne hne] at h1
        exact ⟨h1, d, by rw [List.getElem?_set_ne hne]; exact h2⟩
      pin := fun q hq => by
        obtain ⟨h1, h2, h3⟩ := R.pin q hq
        refine ⟨h1, h2, fun i d z z2 => ?_⟩
        obtain ⟨hi, y⟩ := ows _ _ z
        exact h3 i d y (by rw [List.getElem?_set_ne (Ne.symm hi)]; exact z2) }
theorem wipe_out {v : Nat} : ∀ {vs : List Nat}, v ∉ vs → (L2.wipe σ vs)[v]? = σ[v]?
  | [], _ => rfl
  | u :: vs, h => by
    unfold L2.wipe
    rw [List.getElem?_set_ne (fun z => h (by simp [z]))]
    exact wipe_out fun z => h (List.mem_cons_of_mem _ z)
theorem clr_len {v : Nat} (h : T3.clr v e = some e') : e'.length = e.length ∧ ∀ i, i ≠ v → e'[i]? = e[i]? := by
  unfold T3.clr at h
  split at h
  · cases h
  · cases h
  · cases h
    exact ⟨List.length_set, fun i hi => List.getElem?_set_ne (Ne.symm hi)⟩
theorem wipeE_own : ∀ {vs : List Nat} {e' : En}, wipeE vs e = some e' → ∀ v ∈ vs, ∀ d, e[v]? ≠ some (.ow d)
  | [], _, _, v, hv, _ => (List.not_mem_nil hv).elim
  | u :: vs, e', h, v, hv, d => fun z => by
    unfold wipeE at h
    split at h
    · rename_i e1 h1
      have ih := wipeE_own h1
      rcases List.mem_cons.mp hv with rfl | hv
      · by_cases hin : v ∈ vs
        · exact ih v hin d z
        · have : e1[v]? = e[v]? := wipeE_out h1 hin
          unfold T3.clr at h
          rw [this, z] at h
          cases h
      · exact ih v hv d z
    · cases h
where
  wipeE_out : ∀ {vs : List Nat} {e1 : En} {v : Nat}, wipeE vs e = some e1 → v ∉ vs → e1[v]? = e[v]?
    | [], _, _, h, _ => by cases h; rfl
    | u :: vs, e1, v, h, hv => by
      unfold wipeE at h
      split at h
      · rename_i e2 h2
        rw [(clr_len h).2 v fun z => hv (by simp [z])]
        exact wipeE_out h2 fun z => hv (List.mem_cons_of_mem _ z)
      · cases h
theorem Rl.back (R0 : Rl m c F σ H e0) (s : Sub F F') : ∀ {vs : List Nat} {e' : En}, vs.Nodup → (∀ v ∈ vs, ∀ d, e0[v]? ≠ some (.ow d)) → Rl m c F' (L2.wipe σ vs) H' e' → Rl m c F' σ H' (T3.back e0 vs e')
  | [], e', _, _, R => R
  | v :: vs, e', hn, hno, R => by
    have hn' := List.nodup_cons.mp hn
    unfold T3.back
    refine Rl.back R0 s hn'.2 (fun u hu => hno u (List.mem_cons_of_mem _ hu)) ?_
    unfold L2.wipe at R
    by_cases hv : v < (L2.wipe σ vs).length
    · have hv2 : v < e0.length := by rw [R0.len]; rwa [wipe_length] at hv
      have hg : e0[v]? = some (e0.getD v .non) := by
        rw [List.getD_eq_getElem?_getD, List.getElem?_eq_getElem hv2]
        rfl
      obtain ⟨ov, h1, h2⟩ := R0.slot v _ hg
      refine R.back1 (ov := ov) (by rw [wipe_out hn'.1]; exact h1) ?_ fun d z => hno v List.mem_cons_self d (by rw [hg, z])
      generalize e0.getD v Slot.non = sl at *
      cases sl with
      | non => trivial
      | fz d => obtain ⟨x, h3, h4⟩ := h2; exact ⟨x, h3, h4.mono s⟩
      | rl ns => obtain ⟨x, h3, h4⟩ := h2; exact ⟨x, h3, sqL_mono s h4⟩
      | ow d => exact absurd hg (hno v List.mem_cons_self d)
    · have h1 : (L2.wipe σ vs).set v none = L2.wipe σ vs := List.set_eq_of_length_le (by omega)
      rw [h1] at R
      have h2 : e'.set v (e0.getD v .non) = e' := List.set_eq_of_length_le (by rw [R.len]; omega)
      rw [h2]
      exact R
theorem wipe_same : ∀ {vs : List Nat} {τ τ' : L2.St}, Chg vs τ τ' → L2.wipe τ' vs = L2.wipe τ vs := by
  intro vs τ τ' h
  have key : ∀ (us : List Nat) (i : Nat), (L2.wipe τ' us)[i]? = (L2.wipe τ us)[i]? ∨ (i ∈ vs ∧ i ∉ us) := by
    intro us
    induction us with
    | nil =>
      intro i
      by_cases hi : i ∈ vs
      · exact .inr ⟨hi, by simp⟩
      · exact .inl (h.2 i hi)
    | cons u us ih =>
      intro i
      unfold L2.wipe
      by_cases hu : u = i
      · subst hu
        refine .inl ?_
        rw [List.getElem?_set, List.getElem?_set, if_pos rfl, if_pos rfl, wipe_length, wipe_length, h.1]
      · rcases ih i with ih | ⟨h1, h2⟩
        · exact .inl (by rw [List.getElem?_set_ne hu, List.getElem?_set_ne hu, ih])
        · exact .inr ⟨h1, fun z => (List.mem_cons.mp z).elim (fun z => hu z.symm) h2⟩
  refine List.ext_getElem? fun i => ?_
  rcases key vs i with h1 | ⟨h1, h2⟩
  · exact h1
  · exact absurd h1 h2
theorem wipe_get (vs : List Nat) (i : Nat) (hi : i ∈ vs) (hl : i < σ.length) : (L2.wipe σ vs)[i]? = some none := by
  induction vs with
  | nil => exact (List.not_mem_nil hi).elim
  | cons u us ih =>
    unfold L2.wipe
    by_cases hu : u = i
    · subst hu
      exact List.getElem?_set_self (by rw [wipe_length]; exact hl)
    · rw [List.getElem?_set_ne hu]
      rcases List.mem_cons.mp hi with z | z
      · exact absurd z.symm hu
      · exact ih z
theorem wipe_wipe (vs : List Nat) : L2.wipe (L2.wipe σ vs) vs = L2.wipe σ vs := by
  refine wipe_same ⟨wipe_length _ _, fun i hi => wipe_out hi⟩
theorem Chg.sub {ts vs : List Nat} (h : Chg ts σ τ) (hs : ∀ i ∈ ts, i ∈ vs) : Chg vs σ τ := ⟨h.1, fun i hi => h.2 i fun z => hi (hs i z)⟩
end

/-! ### pins -/
section
variable {m : Md} {c : Cn} {F H : Hp} {σ : L2.St} {e : En}
abbrev Cn.pinned (c : Cn) (L : Addr) (o : HO) : Cn := { c with pins := (L, o) :: c.pins }
theorem SlotR.cn {c' : Cn} (h0 : c'.H0 = c.H0) (hM : c'.M = c.M) {ov : Option V} {s : Slot} (h : SlotR m c F H ov s) : SlotR m c' F H ov s := by
  cases s with
  | non => trivial
  | fz d => exact h
  | rl ns => exact h
  | ow d => obtain ⟨r, h1, h2⟩ := h; exact ⟨r, h1, h2.nf, by rw [h0, hM]; exact h2.nw, h2.at_⟩
theorem Rl.pinIt (R : Rl m c F σ H e) {L : Addr} {o : HO} (h : H L = some o) (nf : F L = none) (hf : ∀ (i : Nat) (d : D), e[i]? = some (.ow d) → σ[i]? ≠ some (some (.ref L))) : Rl m (c.pinned L o) F σ H e :=
  { sub := R.sub, ext := R.ext, new := R.new, keep := R.keep, len := R.len
    slot := fun i s z => let ⟨ov, h1, h2⟩ := R.slot i s z; ⟨ov, h1, SlotR.cn (c := c) (c' := c.pinned L o) rfl rfl h2⟩
    dis := R.dis, mrt := R.mrt
    pin := fun q hq => by
      rcases List.mem_cons.mp hq with rfl | hq
      · exact ⟨h, nf, hf⟩
      · exact R.pin q hq }
theorem Rl.unpin {L : Addr} {o : HO} (R : Rl m (c.pinned L o) F σ H e) : Rl m c F σ H e :=
  { sub := R.sub, ext := R.ext, new := R.new, keep := R.keep, len := R.len
    slot := fun i s z => let ⟨ov, h1, h2⟩ := R.slot i s z; ⟨ov, h1, SlotR.cn (c := c.pinned L o) (c' := c) rfl rfl h2⟩
    dis := R.dis, mrt := R.mrt, pin := fun q hq => R.pin q (List.mem_cons_of_mem _ hq) }
theorem Rl.repin {L : Addr} {o o' : HO} (R : Rl m (c.pinned L o) F σ H e) (h0 : c.H0 L = none) (hp : ∀ q ∈ c.pins, q.1 ≠ L) : Rl m (c.pinned L o') F σ (upd H L o') e := by
  obtain ⟨h1, h2, h3⟩ := R.pin (L, o) List.mem_cons_self
  have up : ∀ a u, H a = some u → a ≠ L → upd H L o' a = some u := fun a u z hne => by rw [upd_ne hne]; exact z
  exact
    { sub := sub_upd R.sub h2, ext := R.ext, new := R.new
      keep := fun a u z hm => up a u (R.keep a u z hm) fun y => by
        subst y
        rw [show c.H0 a = some u from z] at h0
        cases h0
      len := R.len
      slot := fun i s z => by
        obtain ⟨ov, k1, k2⟩ := R.slot i s z
        refine ⟨ov, k1, ?_⟩
        cases s with
        | non => trivial
        | fz d => exact k2
        | rl ns => exact k2
        | ow d =>
          obtain ⟨r, k3, k4⟩ := k2
          have hne : r ≠ L := fun y => h3 i d z (by rw [k1, k3, y])
          exact ⟨r, k3, k4.nf, k4.nw, k4.at_.mono (Same.refl _) fun u y => up r u y hne⟩
      dis := R.dis, mrt := R.mrt
      pin := fun q hq => by
        rcases List.mem_cons.mp hq with rfl | hq
        · exact ⟨upd_same, h2, h3⟩
        · obtain ⟨k1, k2, k3⟩ := R.pin q (List.mem_cons_of_mem _ hq)
          exact ⟨up _ _ k1 (hp q hq), k2, k3⟩ }
end

/-! ### [e for t in it if test] -/
def lcl (vs : List Nat) (ms : List Nat) (g : GX) (t : BX) (f : EX) : List D → En → List D → R (List D)
  | [], e, acc => .ok acc e
  | d :: ds, e, acc => match g d e with
    | none => .bad
    | some e1 => match t e1 with
      | .ok true e2 => match fz ms f e2 with
        | .ok (.fz y) e3 => if acc.length < line then match wipeE vs e3 with
            | some e4 => lcl vs ms g t f ds e4 (acc ++ [y])
            | none => .bad
          else .bad
        | _ => .bad
      | .ok false e2 => match wipeE vs e2 with
        | some e4 => lcl vs ms g t f ds e4 acc
        | none => .bad
      | _ => .bad
def vLc (vs : List Nat) (ms : List Nat) (it : IX) (g : GX) (t : BX) (f : EX) : EX := fun env => match it env with
  | .ok ds e => match wipeE vs e with
    | some e1 => match lcl vs ms g t f ds e1 [] with
      | .ok acc e2 => .ok (.ow (.list acc)) (back e vs e2)
      | _ => .bad
    | none => .bad
  | .exc n i e => .exc n i e
  | .bad => .bad
/-- within a block no exception is wished for -/
def kb (k : Kx) : Kx := ⟨fun _ _ _ _ => False, k.ms⟩
def tstYes : BX := fun env => .ok true env
abbrev PTsX (X : Cx) (k : Kx) (ifs : List Expr) (f : BX) : Prop := PTs X ifs (tT (mdOf X) k f)
theorem ptsx_nil {X : Cx} {k : Kx} : PTsX X k [] tstYes := ⟨fun pins s σ H Q I ⟨c, F, env, hm, R, q⟩ => pts_nil.run pins s σ H Q I (q F H (Same.refl _) R)⟩
theorem ptsx_one {X : Cx} {k : Kx} {e : Expr} {f : BX} (h : PTX X k e f) : PTsX X k [e] f := pts_one h
theorem tX_lc {m : Md} {k : Kx} {vs ts : List Nat} {it : IX} {g : GX} {t : BX} {f : EX} {σ : L2.St} {H : Hp} {Q : VK} (hnd : vs.Nodup) (hts : ∀ i ∈ ts, i ∈ vs) (h : tX m k (vLc vs k.ms it g t f) σ H Q) :
    tLc (tI m k it) (tG m (kb k) ts g) (tT m (kb k) t) (tX m (kb k) (fz k.ms f)) vs σ H Q := by
  obtain ⟨c, F, env, hm, R, q⟩ := h
  refine ⟨c, F, env, hm, R, ?_⟩
  unfold vLc at q
  cases e1 : it env with
  | bad => rw [e1] at q; exact q
  | exc n i e => rw [e1] at q; exact q
  | ok ds e =>
    rw [e1] at q
    dsimp only at q
    cases e2 : wipeE vs e with
    | none => rw [e2] at q; exact q.elim
    | some ew =>
      rw [e2] at q
      dsimp only at q
      cases e3 : lcl vs k.ms g t f ds ew [] with
      | bad => rw [e3] at q; exact q.elim
      | exc n i e => rw [e3] at q; exact q.elim
      | ok accF eF =>
        rw [e3] at q
        intro F1 H1 J s1 R1 ito D hD
        have hD0 := R1.H0none hD
        have hDp : ∀ q ∈ c.pins, q.1 ≠ D := (R1.free_of_none hD).2
        have RW : Rl m (c.pinned D (.lst [])) F1 (L2.wipe σ vs) (upd H1 D (.lst [])) ew := by
          have R2 := (R1.wipe e2)
          exact (R2.laid (o := .lst []) hD).pinIt upd_same (R2.Fnone hD) (R2.free_of_none hD).1
        have start : lcl vs k.ms g t f (ds.drop 0) ew [] = .ok accF eF := e3
        refine ⟨fun i n H => n = ds.length - i ∧ i ≤ ds.length ∧ ∃ F2 e2 accV acc, Sub F1 F2 ∧ Rl m (c.pinned D (.lst accV)) F2 (L2.wipe σ vs) H e2 ∧ FzA m F2 accV acc ∧ lcl vs k.ms g t f (ds.drop i) e2 acc = .ok accF eF,
          ⟨ds.length, rfl, Nat.zero_le _, F1, ew, [], [], Same.refl _, RW, .nil, start⟩, ?_⟩
        rintro i n H2 ⟨rfl, hle, F2, e2', accV, acc, s2, R2, za, ql⟩
        obtain ⟨hp1, hp2, hp3⟩ := R2.pin (D, .lst accV) List.mem_cons_self
        by_cases hi : i < ds.length
        · refine .inr ⟨ito.go i H2 (s2.trans R2.sub) hi, fun H => i + 1 ≤ ds.length ∧ ∃ F3 e3 accV' acc', Sub F1 F3 ∧ Rl m (c.pinned D (.lst accV')) F3 (L2.wipe σ vs) H e3 ∧ FzA m F3 accV' acc' ∧ lcl vs k.ms g t f (ds.drop (i + 1)) e3 acc' = .ok accF eF, fun H' ⟨a, b⟩ => ⟨ds.length - (i + 1), by omega, rfl, a, b⟩, fun x H3 y => ?_⟩
          have hd : ds[i]? = some ds[i] := List.getElem?_eq_getElem hi
          obtain ⟨F3, s3, R3, z3⟩ := (ito.yld i H2 x H3 _ (s2.trans R2.sub) hd y).frozen R2 s2
          rw [List.drop_eq_getElem_cons hi] at ql
          unfold lcl at ql
          cases g1 : g ds[i] e2' with
          | none => rw [g1] at ql; cases ql
          | some e4 =>
            rw [g1] at ql
            dsimp only at ql
            refine ⟨c.pinned D (.lst accV), F3, e2', ds[i], hm, R3, z3, e4, g1, fun F4 σ4 H4 s4 R4 ch => ⟨?_, c.pinned D (.lst accV), F4, e4, hm, R4, ?_⟩⟩
            · rw [wipe_same (ch.sub hts), wipe_wipe]
            · have hw : L2.wipe σ4 vs = L2.wipe σ vs := by rw [wipe_same (ch.sub hts), wipe_wipe]
              cases g2 : t e4 with
              | bad => rw [g2] at ql; cases ql
              | exc n i e => rw [g2] at ql; cases ql
              | ok b e5 =>
                rw [g2] at ql
                intro F5 H5 s5 R5
                cases b with
                | false =>
                  rw [if_neg Bool.false_ne_true]
                  dsimp only at ql
                  split at ql
                  · rename_i e6 g3
                    have R6 := R5.wipe g3
                    rw [hw] at R6
                    exact ⟨hi, F5, e6, accV, acc, ((s2.trans s3).trans s4).trans s5, R6, za.mono ((s3.trans s4).trans s5), ql⟩
                  · cases ql
                | true =>
                  rw [if_pos rfl]
                  dsimp only at ql
                  refine ⟨c.pinned D (.lst accV), F5, e5, hm, R5, ?_⟩
                  cases g3 : fz k.ms f e5 with
                  | bad => rw [g3] at ql; cases ql
                  | exc n i e => rw [g3] at ql; cases ql
                  | ok r e6 =>
                    rw [g3] at ql
                    cases r with
                    | sl j => cases ql
                    | ow d => cases ql
                    | fz yv =>
                      dsimp only at ql
                      split at ql
                      · rename_i hl
                        split at ql
                        · rename_i e7 g4
                          intro F6 H6 v s6 R6 z6
                          obtain ⟨k1, k2, k3⟩ := R6.pin (D, .lst accV) List.mem_cons_self
                          have R7 := R6.wipe g4
                          rw [hw] at R7
                          exact ⟨accV, k1, by rw [za.length, ← line_eq]; exact hl, hi, F6, e7, accV ++ [v], acc ++ [yv], (((s2.trans s3).trans s4).trans s5).trans s6, R7.repin hD0 hDp,
                            (za.mono (((s3.trans s4).trans s5).trans s6)).append (.cons z6 .nil), ql⟩
                        · cases ql
                      · cases ql
        · have hge : ds.length ≤ i := by omega
          refine .inl ⟨ito.stop i H2 (s2.trans R2.sub) hge, ?_⟩
          rw [List.drop_eq_nil_of_le hge] at ql
          have ql : (T3.R.ok acc e2' : T3.R (List T3.D)) = .ok accF eF := ql
          cases ql
          have RB := Rl.back R1 s2 hnd (wipeE_own e2) R2.unpin
          refine q F2 H2 (.ref D) (s1.trans s2) RB ⟨D, rfl, ⟨hp2, .inl hD0, ⟨accV, hp1, za⟩⟩, ?_, hDp⟩
          have RB2 := Rl.back (c := c.pinned D (.lst accV)) ((R1.laid (o := .lst accV) hD).pinIt upd_same (R1.Fnone hD) (R1.free_of_none hD).1) s2 hnd (wipeE_own e2) R2
          exact (RB2.pin (D, .lst accV) List.mem_cons_self).2.2
end T3
end

section
set_option autoImplicit false
/-! THE TREE LAYER, part J: comprehensions used; steps of texts. -/
namespace T3
open PySem PySem.Spec PyProof.Rows L2
section
variable {X : Cx} {k : Kx} {elt tg iter : Expr} {ifs : List Expr} {scope : Scope} {own : List (Str × Nat)} {pos spos py : Pos} {ts : List Nat} {it : IX} {g : GX} {t : BX} {f : EX} {i : Nat} {y : Str}
/-- a comprehension's block, of the lists tX_lc works with -/
theorem px_lc (own : List (Str × Nat)) (hc : X.calm = true) (hN : X.N.Nodup) (hi : PIX X k tg iter it) (ok : BlkOk X.N X.env.scope scope own) (hnd : (own.map (·.2)).Nodup) (hts : ∀ i ∈ ts, i ∈ own.map (·.2))
    (hg : ∀ (s : Shared) (H : Hp) (C : Addr) (cl : List (Str × Addr)) (fp : List Addr), PGX (X.blk s H scope (compEnvC scope cl C X.env) fp) (kb k) tg ts g)
    (ht : ∀ (s : Shared) (H : Hp) (C : Addr) (cl : List (Str × Addr)) (fp : List Addr), PTsX (X.blk s H scope (compEnvC scope cl C X.env) fp) (kb k) ifs t)
    (he : ∀ (s : Shared) (H : Hp) (C : Addr) (cl : List (Str × Addr)) (fp : List Addr), PX (X.blk s H scope (compEnvC scope cl C X.env) fp) (kb k) elt f)
    (hs : ∀ x, foldedSetIterable iter X.env x = pure x := by intro _; rfl) :
    PX X k (.ListComp elt [⟨tg, iter, ifs, 0⟩] scope pos) (vLc (own.map (·.2)) k.ms it g t f) :=
  imp (pe_lc hc hN hi ok hg ht (fun s H C cl fp => (he s H C cl fp).fz) hs) fun σ H Q q => tX_lc hnd hts q
theorem psx_setLc (own : List (Str × Nat)) (hc : X.calm = true) (hN : X.N.Nodup) (hy : X.N[i]? = some y) (hyl : X.env.scope.names.lookup y = some .local)
    (hsw : swapsWith (.ListComp elt [⟨tg, iter, ifs, 0⟩] scope pos) (some (.Name y py)) spos.line X.env = pure true) (hi : PIX X k tg iter it) (ok : BlkOk X.N X.env.scope scope own) (hnd : (own.map (·.2)).Nodup) (hts : ∀ i ∈ ts, i ∈ own.map (·.2))
    (hg : ∀ (s : Shared) (H : Hp) (C : Addr) (cl : List (Str × Addr)) (fp : List Addr), PGX (X.blk s H scope (compEnvC scope cl C X.env) fp) (kb k) tg ts g)
    (ht : ∀ (s : Shared) (H : Hp) (C : Addr) (cl : List (Str × Addr)) (fp : List Addr), PTsX (X.blk s H scope (compEnvC scope cl C X.env) fp) (kb k) ifs t)
    (he : ∀ (s : Shared) (H : Hp) (C : Addr) (cl : List (Str × Addr)) (fp : List Addr), PX (X.blk s H scope (compEnvC scope cl C X.env) fp) (kb k) elt f)
    (hs : ∀ x, foldedSetIterable iter X.env x = pure x := by intro _; rfl) :
    PSX X k (.Assign [.Name y py] (.ListComp elt [⟨tg, iter, ifs, 0⟩] scope pos) spos) (sSet k.ms i (vLc (own.map (·.2)) k.ms it g t f)) :=
  impS (ps_setLc hc hN hy hyl hsw hi ok hg ht (fun s H C cl fp => (he s H C cl fp).fz) hs) fun D σ H q => tX_lc hnd hts (tS_set q)
end

/-! ### x[lo:hi:st] -/
def stepS (x : Str) (lo hi : Option Int) (st : Int) : Str := ⟨((Builtin.Str.strSliceIndices lo hi st x.length).filterMap (x.cps[·]?)).toArray⟩
def rStep (K : PySem.W.Frag) : V → Option Int → Option Int → Int → Hp → VK → Prop := fun x lo hi st H Q =>
  (∃ z, x = .str z ∧ z.length ≤ sizeLine ∧ st ≠ 0 ∧ st ≠ 1 ∧ Q (.str (stepS z lo hi st)) H) ∨
  (∃ a xs, x = .ref a ∧ SqL K H a xs ∧ lo = none ∧ hi = none ∧ st = -1 ∧ ∀ p, H p = none → Q (.ref p) (upd H p (.lst xs.reverse)))
def tSlSt (K : PySem.W.Frag) (te : TE) (tl th tk : TO) : TE := fun σ H Q => te σ H fun x H1 => tl σ H1 fun l H2 => th σ H2 fun u H3 => tk σ H3 fun st H4 => ∃ i, st = some i ∧ rStep K x l u i H4 Q
section
variable {X : Cx} {e st : Expr} {lo hi : Option Expr} {te : TE} {tl th tk : TO} {p2 pos : Pos}
theorem pe_slStep (he : PE X e te) (hl : PO X lo tl) (hu : PO X hi th) (hk : PO X (some st) tk)
    (hs : ∀ o i, subscripted (.Slice lo hi (some st) p2) false o i = operate [o, i] (getItem o i) ∨ subscripted (.Slice lo hi (some st) p2) false o i = operate [i, o] (getItem o i) := by intro _ _; first | exact .inl (by with_unfolding_all rfl) | exact .inr (by with_unfolding_all rfl)) :
    PE X (.Subscript e (.Slice lo hi (some st) p2) pos) (tSlSt X.K te tl th tk) := by
  refine ⟨fun pins s σ H Q I h => ?_⟩
  refine Subscript_ (thn (he.run pins s σ H _ I h) fun v s1 ⟨x, H1, I1, r1, q1⟩ => ?_)
  refine wpAny_Slice (thn (hl.run pins s1 σ H1 _ I1 q1) fun vl s2 ⟨l, H2, I2, pl, q2⟩ => thn (hu.run pins s2 σ H2 _ I2 q2) fun vu s3 ⟨u, H3, I3, pu, q3⟩ => thn (hk.run pins s3 σ H3 _ I3 q3) fun vs s4 ⟨o, H4, I4, ps, i, eo, q⟩ => ?_)
  subst eo
  have I5 : Inv X pins σ H4 { s4 with heap := s4.heap.push { cls := .type "slice", data := .fields #[vl, vu, vs] } } := I4.kept (t' := s4.toks) fun b ob q => Heap.get?_push_of_some _ q
  show wpAny (model X.prog X.w) X.A (subscriptTail e (.Slice lo hi (some st) p2) v (.ref s4.heap.objs.size)) (EP X pins σ Q) X.xe { s4 with heap := s4.heap.push { cls := .type "slice", data := .fields #[vl, vu, vs] } }
  rcases q with ⟨z, rfl, hz, h0, h1, q⟩ | ⟨a, xs, rfl, hx, rfl, rfl, rfl, q⟩
  · obtain ⟨t, rfl⟩ := r1
    obtain ⟨l', rfl, rfl⟩ := IsPart.raw pl
    obtain ⟨u', rfl, rfl⟩ := IsPart.raw pu
    obtain ⟨k', rfl, e4⟩ := IsPart.raw ps
    cases k' with
    | none => cases e4
    | some k' =>
      obtain rfl : k'.1 = i := by simpa using e4
      have hg : wpAny (model X.prog X.w) X.A (getItem (.str z t) (.ref s4.heap.objs.size)) (EP X pins σ Q) X.xe { s4 with heap := s4.heap.push { cls := .type "slice", data := .fields #[partValue l', partValue u', partValue (some k')] } } := by
        refine wpAny_getItem_str_slice (l := l') (u := u') (st := some k') ⟨_, Heap.get?_push_size _ rfl, rfl, rfl⟩ (by simpa using h0) ?_
        unfold sliceMade
        have hc : ¬ ((((some k').map (·.1)).getD 1 == 1 && (slicePicked z l' u' (some k')).length == z.length) = true) := by
          intro y
          simp only [Option.map_some, Option.getD_some, Bool.and_eq_true, beq_iff_eq] at y
          exact h1 y.1
        rw [if_neg hc]
        refine ⟨?_, .str _, H4, I5.tok _, ⟨_, rfl⟩, q⟩
        refine Nat.le_trans ?_ hz
        show (List.filterMap _ (slicePicked z l' u' (some k'))).toArray.size ≤ z.length
        rw [List.size_toArray]
        refine Nat.le_trans (List.length_filterMap_le _ _) (sliceIndicesBy_le _ _ _ h0 z.length)
      rcases hs (.str z t) (.ref s4.heap.objs.size) with hs | hs
      · exact tail_any (ops := [.str z t, .ref s4.heap.objs.size]) (typeIs_str _ _ _) (F.slot_str_getitem.lookup) hg hs
      · exact tail_any (ops := [.ref s4.heap.objs.size, .str z t]) (typeIs_str _ _ _) (F.slot_str_getitem.lookup) hg hs
  · cases r1
    obtain ⟨its, r, ht, hz⟩ := I5.list hx
    have hlen := r.length
    have hg : wpAny (model X.prog X.w) X.A (getItem (.ref a) (.ref s4.heap.objs.size)) (EP X pins σ Q) X.xe { s4 with heap := s4.heap.push { cls := .type "slice", data := .fields #[vl, vu, vs] } } := by
      refine wpAny_getItem_list_slice ht.isList (Heap.IsSliceOf.new _ vl vu vs) pl pu ps (by decide) ?_ (by rw [List.size_toArray]; omega)
      rw [PySem.W.krv_pick]
      refine ⟨.ref _, _, I5.laid (t' := s4.toks) (o := .lst xs.reverse) (fun b ob q => Heap.get?_push_of_some _ q) (Nat.le_refl _) ?_, rfl, q _ (I5.hok.fresh (Nat.le_refl _))⟩
      exact ⟨by rw [List.length_reverse]; exact hz, _, 0, r.reverse, Heap.get?_push_size _ rfl⟩
    rcases hs (.ref a) (.ref s4.heap.objs.size) with hs | hs
    · exact tail_any (ops := [.ref a, .ref s4.heap.objs.size]) ht.isList.typeIs (PySem.slot_list_getitem.lookup) hg hs
    · exact tail_any (ops := [.ref s4.heap.objs.size, .ref a]) ht.isList.typeIs (PySem.slot_list_getitem.lookup) hg hs
end
def pStep : D → Option Int → Option Int → Int → Option Out := fun d lo hi st => match d with
  | .str z => if z.length ≤ line ∧ st ≠ 0 ∧ st ≠ 1 then some (.fz (.str (stepS z lo hi st))) else none
  | .list ds => if lo = none ∧ hi = none ∧ st = -1 then some (.nl ds.reverse) else none
  | _ => none
def opSt (f : EX) (l u : PartX) (t : PartX) : EX := fun env => match rd f env with
  | .ok a e1 => match l e1 with
    | .ok lo e2 => match u e2 with
      | .ok hi e3 => match t e3 with
        | .ok (some st) e4 => match a.get e4 with
          | some d => appO (pStep d lo hi st) e4
          | none => .bad
        | .ok none _ => .bad
        | .exc n i e => .exc n i e
        | .bad => .bad
      | .exc n i e => .exc n i e
      | .bad => .bad
    | .exc n i e => .exc n i e
    | .bad => .bad
  | r => r
theorem FzA.reverse {m : Md} {F : Hp} : ∀ {vs : List V} {ds : List D}, FzA m F vs ds → FzA m F vs.reverse ds.reverse
  | _, _, .nil => .nil
  | _, _, .cons h t => by rw [List.reverse_cons, List.reverse_cons]; exact (FzA.reverse t).append (.cons h .nil)
theorem rule_step {m : Md} {F H : Hp} {x : V} {d : D} {lo hi : Option Int} {st : Int} {o : Out} {Q : VK} (s : Sub F H) (hx : Tp m F H x d) (ho : pStep d lo hi st = some o) (q : contO m F H Q o) : rStep m.K x lo hi st H Q := by
  unfold pStep at ho
  split at ho
  · split at ho
    · rename_i hl
      cases ho
      exact .inl ⟨_, hx.str, by rw [← line_eq]; exact hl.1, hl.2.1, hl.2.2, q _ (.str _)⟩
    · cases ho
  · split at ho
    · rename_i hl
      cases ho
      obtain ⟨a, us, rfl, h1, h2⟩ := hx
      exact .inr ⟨a, us, rfl, h1, hl.1, hl.2.1, hl.2.2, fun p hp => q p _ hp h2.reverse⟩
    · cases ho
  · cases ho
theorem px_step {X : Cx} {k : Kx} {e st : Expr} {f : EX} {lo hi : Option Expr} {l u t : PartX} {p2 pos : Pos} (he : PX X k e f) (hl : POX X k lo l) (hu : POX X k hi u) (ht : POX X k (some st) t)
    (hs : ∀ o i, subscripted (.Slice lo hi (some st) p2) false o i = operate [o, i] (getItem o i) ∨ subscripted (.Slice lo hi (some st) p2) false o i = operate [i, o] (getItem o i) := by intro _ _; first | exact .inl (by with_unfolding_all rfl) | exact .inr (by with_unfolding_all rfl)) :
    PX X k (.Subscript e (.Slice lo hi (some st) p2) pos) (opSt f l u t) :=
  imp (pe_slStep he.rd hl hu ht hs) fun σ H Q ⟨c, F, env, hm, R, q⟩ => by
    refine ⟨c, F, env, hm, R, ?_⟩
    unfold opSt at q
    cases e1 : T3.rd f env with
    | bad => rw [e1] at q; exact q
    | exc n i e => rw [e1] at q; exact q
    | ok a ea =>
      rw [e1] at q
      intro F' H' v s R1 z
      refine ⟨c, F', ea, hm, R1, ?_⟩
      dsimp only at q
      cases e2 : l ea with
      | bad => rw [e2] at q; exact q
      | exc n i e => rw [e2] at q; exact fun F2 H2 s2 R2 => q F2 H2 (s.trans s2) R2
      | ok lo' eb =>
        rw [e2] at q
        intro F2 H2 s2 R2
        refine ⟨c, F2, eb, hm, R2, ?_⟩
        dsimp only at q
        cases e3 : u eb with
        | bad => rw [e3] at q; exact q
        | exc n i e => rw [e3] at q; exact fun F3 H3 s3 R3 => q F3 H3 ((s.trans s2).trans s3) R3
        | ok hi' ec =>
          rw [e3] at q
          intro F3 H3 s3 R3
          refine ⟨c, F3, ec, hm, R3, ?_⟩
          dsimp only at q
          cases e4 : t ec with
          | bad => rw [e4] at q; exact q
          | exc n i e => rw [e4] at q; exact fun F4 H4 s4 R4 => q F4 H4 (((s.trans s2).trans s3).trans s4) R4
          | ok st' ed =>
            rw [e4] at q
            intro F4 H4 s4 R4
            cases st' with
            | none => exact q.elim
            | some i =>
              dsimp only at q
              cases g1 : a.get ed with
              | none => rw [g1] at q; exact q.elim
              | some d =>
                rw [g1] at q
                obtain ⟨o, ho, hc⟩ := post_app R4 (postX.mono (((s.trans s2).trans s3).trans s4) q)
                exact ⟨i, rfl, rule_step R4.sub ((z.mono ((s2.trans s3).trans s4)).tp R4 g1) ho hc⟩
end T3
end

section
set_option autoImplicit false
/-! THE TREE LAYER, part K: enumerate. -/
namespace T3
open PySem PySem.Spec PyProof.Rows L2
def IteS (x : Str) : It := ⟨fun i _ => i < x.cps.size, fun i H v H' => ∃ T c, v = .ref T ∧ H T = none ∧ H' = upd H T (.tup [.int (i : Nat), .str ⟨#[c]⟩]) ∧ x.cps[i]? = some c, fun i _ => x.cps.size ≤ i⟩
theorem turn_enumS {P : Program} {w : World} {K : PySem.W.Frag} {elts : List Expr} {kk : Nat} {tpos : Pos} (x : Str) (t : Tok) (e it : Addr) :
    Turn P w K (.Tuple elts kk tpos) (IteS x) [e, it] e (fun i h => (∃ old, IsEnum h e it ((i : Nat) : Int) old) ∧ h.IsStrIter it (strIterType x) x t i ∧ e ≠ it) where
  mem := by simp
  obj := fun i h st b hb => by
    obtain ⟨⟨old, he⟩, ⟨o, ho, hc, hd⟩, _⟩ := st
    have e' : b = e ∨ b = it := by simpa using hb
    rcases e' with z | z
    · rw [z]
      exact ⟨_, he, fun v q => nomatch q⟩
    · rw [z]
      exact ⟨o, ho, fun v q => by rw [hd] at q; cases q⟩
  keep := fun i h h' st k => by
    obtain ⟨⟨old, he⟩, ⟨o, ho, r⟩, hne⟩ := st
    exact ⟨⟨old, k e (by simp) _ he⟩, ⟨o, k it (by simp) o ho, r⟩, hne⟩
  item := by
    intro X hP hw hK hc i pins s σ H E I hf st hg
    subst hP hw hK
    obtain ⟨⟨old, he⟩, hit, hne⟩ := st
    have hel : e < s.heap.objs.size := Heap.lt_size he
    have hil : it < s.heap.objs.size := by obtain ⟨_, q, _⟩ := hit; exact Heap.lt_size q
    have DD := Draws.text (prog := X.prog) (w := X.w) (A := X.A.in1) (I.ok.hd hc) it x t
    refine wpAny_pyNext_enum_itemD DD he hit hg hne (by simpa using hne) fun y h' tk hP ho hit' hT hsz hk => ?_
    obtain ⟨c, u, hcx, rfl⟩ := hP
    refine ⟨_, rfl, wpAny_letOwnedTupleGo_enum (s := { s with heap := h', toks := tk + 1 }) ho fun h'' he' sb => ?_⟩
    have hT2 : h''.get? s.heap.objs.size = some { cls := .type "tuple", data := .seq #[.int i tk, .str ⟨#[c]⟩ u] } := (sb.2 _ (Nat.ne_of_gt hel)).trans hT
    have new : ObjOk X.prog X.w (upd H s.heap.objs.size (.tup [.int (i : Nat), .str ⟨#[c]⟩])) h'' s.heap.objs.size (.tup [.int (i : Nat), .str ⟨#[c]⟩]) :=
      ⟨by show 2 ≤ sizeLine; decide, [.int i tk, .str ⟨#[c]⟩ u], .cons ⟨_, rfl⟩ (.cons ⟨_, rfl⟩ .nil), ⟨_, hT2, rfl, _, rfl⟩⟩
    have I1 : Inv X pins σ (upd H s.heap.objs.size (.tup [.int (i : Nat), .str ⟨#[c]⟩])) { s with heap := h'', toks := tk + 1 } :=
      I.turnedNew (ch := [e, it]) (fun b ob hb q => (sb.2 b (fun z => hb (by simp [z]))).trans (hk b ob (fun z => hb (by simp [z])) (fun z => hb (by simp [z])) q)) hf (Nat.le_refl _) new
    have hit2 : h''.IsStrIter it (strIterType x) x t (i + 1) := by
      obtain ⟨o, q, r⟩ := hit'
      exact ⟨o, (sb.2 it (Ne.symm hne)).trans q, r⟩
    refine ⟨.ref s.heap.objs.size, _, I1, rfl, ⟨_, c, rfl, I.hok.fresh (Nat.le_refl _), rfl, hcx⟩, ⟨⟨.str ⟨#[c]⟩ u, ?_⟩, hit2, hne⟩, fun b hb => ?_⟩
    · have e1 : ((i + 1 : Nat) : Int) = (i : Int) + 1 := by omega
      exact e1 ▸ he'
    · have e' : b = e ∨ b = it := by simpa using hb
      have hb' : b < s.heap.objs.size := by
        rcases e' with z | z
        · exact z ▸ hel
        · exact z ▸ hil
      rw [upd_ne (Nat.ne_of_lt hb')]
      exact (hf b hb).1
  done := by
    intro X hP hw hK hc i pins s σ H E I hf st hg
    subst hP hw hK
    obtain ⟨⟨old, he⟩, hit, hne⟩ := st
    have hg : x.cps.size ≤ i := hg
    obtain ⟨f0, f1, f2, f3, f4, f5⟩ := hf it (by simp)
    unfold pyNext
    have hT : s.TypeIs (.ref e) "enumerate" := ⟨_, he, rfl⟩
    have hx : x.cps[i]? = none := Array.getElem?_eq_none hg
    have dn : ∀ (Q : Value → Shared → Prop) (E : Value → Shared → Prop), (∀ h' e, Heap.ExtBut it s.heap h' → (∃ o, h'.get? e = some o ∧ o.cls = .type "StopIteration") → E (.ref e) { s with heap := h' }) →
        wpAny (model X.prog X.w) X.A.in1 (Builtin.SmallTypes.nextOf (.ref it)) Q E s := by
      intro Q E hE
      have hit1 := hit
      unfold strIterType at hit1
      split at hit1
      · exact wpAny_nextOf_ascii_end (I.ok.hd hc) hit1 hx hE
      · exact wpAny_nextOf_wide_end (I.ok.hd hc) hit1 hx hE
    refine wpAny_bind (wpAny_attempt (wpAny_callSpecial?_slot (name := Str.ofString "__next__") hT F.slot_enumerate_next
      (wpAny_call_entry F.slot_enumerate_next hT F.entry_enumerate_next ?_ (F.args_enumerate_next_1 _))))
    show wpAny _ _ (field (.ref e) 2 >>= _) _ _ _
    refine wpAny_bind (wpAny_field he rfl (x := .ref it) rfl ?_)
    refine wpAny_bind (dn _ _ fun h' x he' hx' => ?_)
    obtain ⟨o, ho, hcl⟩ := hx'
    refine wpAny_bind (wpAny_isInstance (T := "StopIteration") (b := true) ⟨o, ho, hcl⟩ isSubtype_stop ?_)
    exact wpAny_pure ⟨rfl, I.turned (t' := s.toks) (fun b o hb q => he' b o hb q) f0 f1 f3 f4 f5⟩
  self := fun A i s Q E st h => let ⟨⟨_, he⟩, _⟩ := st; wpAny_pyIter_enum he h
def iEnA (K : PySem.W.Frag) (ta : TA) : TI := fun σ H R => ta σ H fun vs H1 => (∃ a xs, vs = [.ref a] ∧ SqL K H1 a xs ∧ R (Ite K a) H1) ∨ ∃ x, vs = [.str x] ∧ R (IteS x) H1
theorem pi_enA {X : Cx} {e : Expr} {ta : TA} {p pos tpos : Pos} {elts : List Expr} {kk : Nat} (hg : Gl X "enumerate") (hm : X.mg "enumerate" = none) (ha : PA X [e] ta) (hs : starEach [e] X.env = [(false, eval e X.env)] := by rfl) :
    PI X (.Tuple elts kk tpos) (.Call (.Name "enumerate" p) [e] [] pos) (iEnA X.K ta) := by
  refine ⟨fun pins s σ H R I h => ?_⟩
  refine Call_ (ld_blt I hg hm boot_enumerate (PyProof.Rows.callWith_type1 (thn (ha.run pos pins s σ H _ I h) fun us s1 ⟨vs, H1, I1, r1, q1⟩ => ?_) hs rfl))
  have fp : ∀ b ∈ [s1.heap.objs.size + 1, s1.heap.objs.size], s1.heap.objs.size ≤ b := fun b hb => by
    have e' : b = s1.heap.objs.size + 1 ∨ b = s1.heap.objs.size := by simpa using hb
    rcases e' with z | z
    · rw [z]; exact Nat.le_add_right _ _
    · rw [z]; exact Nat.le_refl _
  rcases q1 with ⟨a, xs, ex, hq, q⟩ | ⟨x, ex, q⟩
  · subst ex
    cases r1 with
    | cons r rr =>
      cases rr
      cases r
      obtain ⟨its, rv, p', hz⟩ := I1.list hq
      refine call_enumerate_list p'.isList fun h' he hit hsz hk => wpAny_pyIter_enum he ?_
      have I2 : Inv X pins σ H1 { s1 with heap := h' } := I1.kept (t' := s1.toks) hk
      exact ⟨s1.heap.objs.size + 1, _, _, _, H1, rfl, I2, turn_enum a (s1.heap.objs.size + 1) s1.heap.objs.size, ⟨⟨.none, he⟩, hit, Nat.succ_ne_self _⟩, fun b hb => I1.fpOk (fp b hb) (I1.hok.fresh (fp b hb)), q⟩
  · subst ex
    cases r1 with
    | cons r rr =>
      cases rr
      obtain ⟨t, rfl⟩ := r
      refine call_enumerate_str fun h' he hit hsz hk => wpAny_pyIter_enum he ?_
      have I2 : Inv X pins σ H1 { s1 with heap := h' } := I1.kept (t' := s1.toks) hk
      exact ⟨s1.heap.objs.size + 1, _, _, _, H1, rfl, I2, turn_enumS x t (s1.heap.objs.size + 1) s1.heap.objs.size, ⟨⟨.none, he⟩, hit, Nat.succ_ne_self _⟩, fun b hb => I1.fpOk (fp b hb) (I1.hok.fresh (fp b hb)), q⟩

/-- (0, a), (1, b), .. -/
def num : Nat → List D → List D
  | _, [] => []
  | i, d :: ds => .tuple [.int (i : Nat), d] :: num (i + 1) ds
theorem num_length : ∀ (ds : List D) (i : Nat), (num i ds).length = ds.length
  | [], _ => rfl
  | _ :: ds, i => by unfold num; rw [List.length_cons, List.length_cons, num_length ds]
theorem num_get : ∀ (ds : List D) (i j : Nat) (x : D), (num i ds)[j]? = some x → ∃ d, ds[j]? = some d ∧ x = .tuple [.int ((i + j : Nat) : Int), d]
  | [], _, _, _, h => by unfold num at h; cases h
  | d :: ds, i, 0, x, h => by unfold num at h; cases h; exact ⟨d, rfl, rfl⟩
  | d :: ds, i, j + 1, x, h => by
    unfold num at h
    rw [List.getElem?_cons_succ] at h
    obtain ⟨y, h1, h2⟩ := num_get ds (i + 1) j x h
    exact ⟨y, by rw [List.getElem?_cons_succ]; exact h1, by rw [h2, show i + 1 + j = i + (j + 1) from by omega]⟩
section
variable {m : Md} {F : Hp} {ds : List D}
theorem it_enum {a : Addr} {xs : List V} (h : SqL m.K F a xs) (z : FzA m F xs ds) : ItOk m F (Ite m.K a) (num 0 ds) where
  go := fun i H s hi => by
    rw [num_length] at hi
    have hl : i < xs.length := by rw [z.length]; exact hi
    exact ⟨xs, xs[i], sqL_mono s h, List.getElem?_eq_getElem hl⟩
  stop := fun i H s hi => ⟨xs, sqL_mono s h, by rw [num_length] at hi; rw [z.length]; exact hi⟩
  yld := fun i H x H' d s hd y => by
    obtain ⟨T, v, e1, hT, e2, y⟩ := y
    obtain ⟨d', h1, h2⟩ := num_get _ _ _ _ hd
    obtain ⟨v', h3, h4⟩ := z.get h1
    have e3 := y xs (sqL_mono s h)
    rw [h3] at e3; cases e3
    rw [Nat.zero_add] at h2
    exact .inr ⟨T, _, [.int (i : Nat), d'], e1, hT, e2, .cons (.int _) (.cons h4 .nil), h2⟩
theorem it_enumS {x : Str} : ItOk m F (IteS x) (num 0 (signs x)) where
  go := fun i H s hi => by
    rw [num_length] at hi
    unfold signs at hi
    rw [List.length_map, Array.length_toList] at hi
    exact hi
  stop := fun i H s hi => by
    rw [num_length] at hi
    unfold signs at hi
    rw [List.length_map, Array.length_toList] at hi
    exact hi
  yld := fun i H v H' d s hd y => by
    obtain ⟨T, c, e1, hT, e2, y⟩ := y
    obtain ⟨d', h1, h2⟩ := num_get _ _ _ _ hd
    unfold signs at h1
    rw [List.getElem?_map, Array.getElem?_toList, y] at h1
    cases h1
    rw [Nat.zero_add] at h2
    exact .inr ⟨T, _, [.int (i : Nat), .str ⟨#[c]⟩], e1, hT, e2, .cons (.int _) (.cons (.str _) .nil), h2⟩
end
def iEnum (ms : List Nat) (f : EX) : IX := fun env => match fz ms f env with
  | .ok (.fz d) e => match d with
    | .list ds => .ok (num 0 ds) e
    | .str x => .ok (num 0 (signs x)) e
    | _ => .bad
  | .exc n i e => .exc n i e
  | _ => .bad
theorem pix_enum {X : Cx} {k : Kx} {e : Expr} {f : EX} {p pos tpos : Pos} {elts : List Expr} {kk : Nat} (he : PX X k e f) (hm : X.mg "enumerate" = none) (hg : Gl X "enumerate" := by rfl) (hs : starEach [e] X.env = [(false, eval e X.env)] := by rfl) (hs2 : starEach [e] X.env = (false, eval e X.env) :: starEach [] X.env := by rfl) :
    PIX X k (.Tuple elts kk tpos) (.Call (.Name "enumerate" p) [e] [] pos) (iEnum k.ms f) :=
  impI (pi_enA hg hm (pa_cons he.fz pa_nil hs2) hs) fun σ H Q ⟨c, F, env, hmm, R, q⟩ => by
    refine ⟨c, F, env, hmm, R, ?_⟩
    unfold iEnum at q
    cases e1 : fz k.ms f env with
    | bad => rw [e1] at q; exact q
    | exc n i e => rw [e1] at q; exact q
    | ok r e =>
      rw [e1] at q
      cases r with
      | sl j => exact q.elim
      | ow d => exact q.elim
      | fz d =>
        cases d with
        | list es =>
          intro F' H' v s R' z
          cases z with
          | lst h1 h2 => exact .inl ⟨_, _, rfl, sqL_mono R'.sub h1, q F' H' _ s R' (it_enum h1 h2)⟩
        | str x =>
          intro F' H' v s R' z
          cases z
          exact .inr ⟨_, rfl, q F' H' _ s R' it_enumS⟩
        | _ => exact q.elim
end T3
end

section
set_option autoImplicit false
/-! THE TREE LAYER, part L: dicts. -/
namespace T3
open PySem PySem.Spec PyProof.Rows L2

/-! ### keys in the heap -/
mutual
theorem Fz.nested {X : Cx} {pins : List (Addr × Obj)} {σ : L2.St} {F H : Hp} {s : Shared} (I : Inv X pins σ H s) (sF : Sub F H) : ∀ {v : V} {d : D} {u : Value} {nk : NestedKey}, Fz (mdOf X) F v d → keyOf d = some nk → RelV v u → NestedIs s.heap nk u
  | _, _, _, _, .non, e, r => by cases e; cases r; exact .none
  | _, _, _, _, .bl b, e, r => by cases e; cases r; exact .bool rfl
  | _, _, _, _, .int i, e, r => by cases e; obtain ⟨t, rfl⟩ := r; exact .int _ _
  | _, _, _, _, .str x, e, r => by cases e; obtain ⟨t, rfl⟩ := r; exact .text _ _
  | _, _, _, _, .lst _ _, e, _ => by cases e
  | _, _, _, _, .dct _ _ _, e, _ => by cases e
  | _, _, _, _, .tup h1 h2, e, r => by
    cases r
    obtain ⟨its, rv, ⟨o, p1, p2, n, p3⟩, _⟩ := I.tuple (sqT_mono sF h1)
    unfold keyOf at e
    split at e
    · rename_i ks hk
      cases e
      exact .tup p1 p2 p3 (FzA.nested I sF h2 hk rv)
    · cases e
theorem FzA.nested {X : Cx} {pins : List (Addr × Obj)} {σ : L2.St} {F H : Hp} {s : Shared} (I : Inv X pins σ H s) (sF : Sub F H) : ∀ {vs : List V} {ds : List D} {us : List Value} {ks : List NestedKey}, FzA (mdOf X) F vs ds → keysOf ds = some ks → Vals vs us → NestedAll s.heap ks us
  | _, _, _, _, .nil, e, r => by cases e; cases r; exact .nil
  | _, _, _, _, .cons h t, e, r => by
    cases r with
    | cons r1 r2 =>
      unfold keysOf at e
      split at e
      · rename_i k ks hk hks
        cases e
        exact .cons (Fz.nested I sF h hk r1) (FzA.nested I sF t hks r2)
      · cases e
end

/-! ### keys carried by value, but bools -/
def isB : Value → Bool
  | .bool _ => true
  | _ => false
def lk (P : Program) (w : World) : KeyKind P w Leaf where
  is := fun k v => Leaf.isOf k v && !isB v
  hash := (leafKind P w).hash
  inj := fun v a b ha hb => (leafKind P w).inj v a b (Bool.and_eq_true_iff.mp ha).1 (Bool.and_eq_true_iff.mp hb).1
  byValue := fun k v h => (leafKind P w).byValue k v (Bool.and_eq_true_iff.mp h).1
  pyHash := fun h q => (leafKind P w).pyHash (Bool.and_eq_true_iff.mp h).1 q
  eqBool := fun h h' q => (leafKind P w).eqBool (Bool.and_eq_true_iff.mp h).1 (Bool.and_eq_true_iff.mp h').1 q
  «strs» := fun k x t v h => by
    have e := (leafKind P w).strs k x t v (Bool.and_eq_true_iff.mp h).1
    have e : Leaf.isOf k v = v.isStr x := e
    show (Leaf.isOf k v && !isB v) = v.isStr x
    rw [e]
    cases v <;> first | rfl | exact Bool.and_true _
def leafOf : D → Option Leaf
  | .none => some .none
  | .int i => some (.num i)
  | .str x => some (.text x)
  | _ => none
def lkV : Leaf → V
  | .none => .non
  | .num i => .int i
  | .text x => .str x
theorem leaf_key {d : D} {l : Leaf} (h : leafOf d = some l) : keyOf d = some l.key := by
  cases d <;> first | (cases h; rfl) | cases h
theorem leaf_val {m : Md} {F : Hp} {v : V} {d : D} {l : Leaf} (z : Fz m F v d) (h : leafOf d = some l) : v = lkV l := by
  cases z <;> first | (cases h; rfl) | cases h
theorem lk_is {P : Program} {w : World} {l : Leaf} {u : Value} (r : RelV (lkV l) u) : (lk P w).is l u = true := by
  cases l with
  | none => cases r; rfl
  | num i =>
    obtain ⟨t, rfl⟩ := r
    show (decide (i = i) && true) = true
    rw [decide_eq_true rfl]; rfl
  | text x =>
    obtain ⟨t, rfl⟩ := r
    show (Value.isStrOf x (.str x t) && true) = true
    rw [Bool.and_true]
    unfold Value.isStrOf
    simp
theorem lk_rel {P : Program} {w : World} {l : Leaf} {u : Value} (h : (lk P w).is l u = true) : RelV (lkV l) u := by
  obtain ⟨h1, h2⟩ := Bool.and_eq_true_iff.mp h
  have n := Leaf.nested (h := default) h1
  cases l with
  | none => cases n; rfl
  | num i =>
    cases n with
    | bool _ => cases h2
    | int _ t => exact ⟨t, rfl⟩
  | text x => cases n; exact ⟨_, rfl⟩

/-! ### entries -/
def eget (es : List DE) (nk : NestedKey) : Option V := (es.find? fun e => decide (e.nk = nk)).map (·.v)
def eput (es : List DE) (nk : NestedKey) (k v : V) : List DE :=
  if (es.any fun e => decide (e.nk = nk)) = true then es.map fun e => if e.nk = nk then ⟨e.nk, e.k, v⟩ else e else es ++ [⟨nk, k, v⟩]
def dget (kvs : List (D × D)) (nk : NestedKey) : Option D := (kvs.find? fun p => decide (keyOf p.1 = some nk)).map (·.2)
def dput (kvs : List (D × D)) (nk : NestedKey) (kd vd : D) : List (D × D) :=
  if (kvs.any fun p => decide (keyOf p.1 = some nk)) = true then kvs.map fun p => if keyOf p.1 = some nk then (p.1, vd) else p else kvs ++ [(kd, vd)]
section
variable {m : Md} {F : Hp} {nk : NestedKey}
theorem FzE.get : ∀ {es : List DE} {kvs : List (D × D)}, FzE m F es kvs → (∀ d, dget kvs nk = some d → ∃ v, eget es nk = some v ∧ Fz m F v d) ∧ (dget kvs nk = none → eget es nk = none)
  | _, _, .nil => ⟨fun d h => (by cases h), fun _ => rfl⟩
  | e :: es, (kd, vd) :: kvs, .cons h1 h2 h3 t => by
    obtain ⟨i1, i2⟩ := FzE.get t
    by_cases q : e.nk = nk
    · have h1 : keyOf kd = some nk := by rw [h1, q]
      have a1 : dget ((kd, vd) :: kvs) nk = some vd := by unfold dget; rw [List.find?_cons_of_pos (by simpa using h1)]; rfl
      have a2 : eget (e :: es) nk = some e.v := by unfold eget; rw [List.find?_cons_of_pos (by simpa using q)]; rfl
      rw [a1, a2]
      exact ⟨fun d h => (by cases h; exact ⟨_, rfl, h3⟩), fun h => (by cases h)⟩
    · have h1' : ¬ keyOf kd = some nk := by rw [h1]; simpa using q
      have a1 : dget ((kd, vd) :: kvs) nk = dget kvs nk := by unfold dget; rw [List.find?_cons_of_neg (by simpa using h1')]
      have a2 : eget (e :: es) nk = eget es nk := by unfold eget; rw [List.find?_cons_of_neg (by simpa using q)]
      rw [a1, a2]
      exact ⟨i1, i2⟩
theorem FzE.anyk : ∀ {es : List DE} {kvs : List (D × D)}, FzE m F es kvs → (es.any fun e => decide (e.nk = nk)) = kvs.any fun p => decide (keyOf p.1 = some nk)
  | _, _, .nil => rfl
  | e :: es, (kd, vd) :: kvs, .cons h1 h2 h3 t => by
    rw [List.any_cons, List.any_cons, FzE.anyk t, h1]
    congr 1
    by_cases q : e.nk = nk <;> simp [q]
theorem FzE.append : ∀ {es fs : List DE} {kvs jvs : List (D × D)}, FzE m F es kvs → FzE m F fs jvs → FzE m F (es ++ fs) (kvs ++ jvs)
  | _, _, _, _, .nil, h => h
  | _, _, _, _, .cons h1 h2 h3 t, h => .cons h1 h2 h3 (FzE.append t h)
theorem FzE.repl {v : V} {vd : D} (hv : Fz m F v vd) : ∀ {es : List DE} {kvs : List (D × D)}, FzE m F es kvs → FzE m F (es.map fun e => if e.nk = nk then ⟨e.nk, e.k, v⟩ else e) (kvs.map fun p => if keyOf p.1 = some nk then (p.1, vd) else p)
  | _, _, .nil => .nil
  | e :: es, (kd, d) :: kvs, .cons h1 h2 h3 t => by
    rw [List.map_cons, List.map_cons]
    by_cases q : e.nk = nk
    · have h1' : keyOf kd = some nk := by rw [h1, q]
      rw [if_pos q, if_pos h1']
      exact .cons h1 h2 hv (FzE.repl hv t)
    · have h1' : ¬ keyOf kd = some nk := by rw [h1]; simpa using q
      rw [if_neg q, if_neg h1']
      exact .cons h1 h2 h3 (FzE.repl hv t)
theorem FzE.put {k v : V} {kd vd : D} {es : List DE} {kvs : List (D × D)} (z : FzE m F es kvs) (h : keyOf kd = some nk) (hk : Fz m F k kd) (hv : Fz m F v vd) : FzE m F (eput es nk k v) (dput kvs nk kd vd) := by
  unfold eput dput
  rw [z.anyk]
  split
  · exact z.repl hv
  · exact z.append (.cons h hk hv .nil)
end
theorem eput_length (es : List DE) (nk : NestedKey) (k v : V) : (eput es nk k v).length ≤ es.length + 1 := by
  unfold eput
  split
  · rw [List.length_map]; omega
  · rw [List.length_append]; exact Nat.le_refl _

/-! ### the library's tellings: keys by value -/
theorem pa_app {α β : Type} {R : α → β → Prop} : ∀ {xs ys : List α} {us vs : List β}, Paired R xs us → Paired R ys vs → Paired R (xs ++ ys) (us ++ vs)
  | _, _, _, _, .nil, h => h
  | _, _, _, _, .cons r t, h => .cons r (pa_app t h)
abbrev LP : List DE → List (Leaf × Value) → Prop := Paired fun e p => p.1.key = e.nk ∧ e.k = lkV p.1 ∧ RelV e.v p.2
theorem LP.get {l : Leaf} : ∀ {es : List DE} {ps : List (Leaf × Value)}, LP es ps → (∀ v, eget es l.key = some v → ∃ u, valueAt ps l = some u ∧ RelV v u) ∧ (eget es l.key = none → valueAt ps l = none)
  | _, _, .nil => ⟨fun d h => (by cases h), fun _ => rfl⟩
  | e :: es, p :: ps, .cons h t => by
    obtain ⟨i1, i2⟩ := LP.get (l := l) t
    by_cases q : p.1 = l
    · have q2 : e.nk = l.key := by rw [← h.1, q]
      have a1 : eget (e :: es) l.key = some e.v := by unfold eget; rw [List.find?_cons_of_pos (by simpa using q2)]; rfl
      have a2 : valueAt (p :: ps) l = some p.2 := by unfold valueAt; rw [List.find?_cons_of_pos (by simpa using q)]; rfl
      rw [a1, a2]
      exact ⟨fun d h' => (by cases h'; exact ⟨_, rfl, h.2.2⟩), fun h => (by cases h)⟩
    · have q2 : ¬ e.nk = l.key := by rw [← h.1]; exact fun z => q (Leaf.key_inj z)
      have a1 : eget (e :: es) l.key = eget es l.key := by unfold eget; rw [List.find?_cons_of_neg (by simpa using q2)]
      have a2 : valueAt (p :: ps) l = valueAt ps l := by unfold valueAt; rw [List.find?_cons_of_neg (by simpa using q)]
      rw [a1, a2]
      exact ⟨i1, i2⟩
theorem LP.anyk {l : Leaf} : ∀ {es : List DE} {ps : List (Leaf × Value)}, LP es ps → (es.any fun e => decide (e.nk = l.key)) = ps.any fun p => decide (p.1 = l)
  | _, _, .nil => rfl
  | e :: es, p :: ps, .cons h t => by
    rw [List.any_cons, List.any_cons, LP.anyk t, ← h.1]
    congr 1
    by_cases q : p.1 = l
    · simp [q]
    · have : ¬ p.1.key = l.key := fun z => q (Leaf.key_inj z)
      simp [q, this]
theorem LP.repl {l : Leaf} {v : V} {u : Value} (r : RelV v u) : ∀ {es : List DE} {ps : List (Leaf × Value)}, LP es ps → LP (es.map fun e => if e.nk = l.key then ⟨e.nk, e.k, v⟩ else e) (ps.map fun p => if p.1 = l then (p.1, u) else p)
  | _, _, .nil => .nil
  | e :: es, p :: ps, .cons h t => by
    rw [List.map_cons, List.map_cons]
    by_cases q : p.1 = l
    · have q2 : e.nk = l.key := by rw [← h.1, q]
      rw [if_pos q, if_pos q2]
      exact .cons ⟨h.1, h.2.1, r⟩ (LP.repl r t)
    · have q2 : ¬ e.nk = l.key := by rw [← h.1]; exact fun z => q (Leaf.key_inj z)
      rw [if_neg q, if_neg q2]
      exact .cons h (LP.repl r t)
theorem LP.put {l : Leaf} {v : V} {u : Value} {es : List DE} {ps : List (Leaf × Value)} (z : LP es ps) (r : RelV v u) : LP (eput es l.key (lkV l) v) (stored ps l u) := by
  unfold eput stored
  rw [z.anyk]
  split
  · exact z.repl r
  · exact pa_app z (.cons ⟨rfl, rfl, r⟩ .nil)
theorem LP.keys : ∀ {es : List DE} {ps : List (Leaf × Value)}, LP es ps → es.map (·.nk) = ps.map fun p => p.1.key
  | _, _, .nil => rfl
  | _, _, .cons h t => by rw [List.map_cons, List.map_cons, LP.keys t, h.1]
theorem nodup_map {α β : Type} {f : α → β} (hf : ∀ a b, f a = f b → a = b) : ∀ {l : List α}, l.Nodup → (l.map f).Nodup
  | [], _ => List.nodup_nil
  | a :: l, h => by
    obtain ⟨h1, h2⟩ := List.nodup_cons.mp h
    rw [List.map_cons]
    refine List.nodup_cons.mpr ⟨fun z => ?_, nodup_map hf h2⟩
    obtain ⟨b, hb, e⟩ := List.mem_map.mp z
    exact h1 (hf _ _ e ▸ hb)
theorem nodup_of_map {α β : Type} {f : α → β} : ∀ {l : List α}, (l.map f).Nodup → l.Nodup
  | [], _ => List.nodup_nil
  | a :: l, h => by
    rw [List.map_cons] at h
    obtain ⟨h1, h2⟩ := List.nodup_cons.mp h
    exact List.nodup_cons.mpr ⟨fun z => h1 (List.mem_map.mpr ⟨a, z, rfl⟩), nodup_of_map h2⟩
section
variable {P : Program} {w : World}
theorem leafPairs {m : Md} {F : Hp} : ∀ {es : List DE} {kvs : List (D × D)} {xs : List DictEntry}, FzE m F es kvs → (∀ q ∈ kvs, (leafOf q.1).isSome = true) → Paired (fun (e : DE) (x : DictEntry) => x.hash = e.nk.hash w ∧ RelV e.k x.key ∧ RelV e.v x.val) es xs →
      ∃ ps, Pairs (lk P w) xs ps ∧ LP es ps ∧ ∀ x ∈ xs, ∃ k, (lk P w).is k x.key = true ∧ x.hash = (lk P w).hash k
  | _, _, _, .nil, _, pr => by cases pr; exact ⟨[], .nil, .nil, fun x hx => (by cases hx)⟩
  | e :: es, (kd, vd) :: kvs, _, .cons h1 h2 h3 t, hl, pr => by
    cases pr with
    | @cons _ x _ xs r rr =>
      obtain ⟨ps, i1, i2, i3⟩ := leafPairs t (fun q hq => hl q (List.mem_cons_of_mem _ hq)) rr
      obtain ⟨l, hlf⟩ := Option.isSome_iff_exists.mp (hl (kd, vd) List.mem_cons_self)
      have e1 := leaf_key hlf
      rw [h1] at e1
      have e1 : e.nk = l.key := Option.some.inj e1
      have e2 := leaf_val h2 hlf
      have is1 : (lk P w).is l x.key = true := lk_is (by rw [← e2]; exact r.2.1)
      refine ⟨(l, x.val) :: ps, .cons is1 rfl i1, .cons ⟨e1.symm, e2, r.2.2⟩ i2, fun y hy => ?_⟩
      rcases List.mem_cons.mp hy with rfl | hy
      · exact ⟨l, is1, by rw [r.1, e1]; rfl⟩
      · exact i3 y hy
/-- from a dict of ours to the library's .. -/
theorem DProp.leaf {h : Heap} {a : Addr} {es : List DE} {o : Obj} {kvs : List (D × D)} {m : Md} {F : Hp} (hw : m.w = w) (p : DProp w a es o) (ho : h.get? a = some o) (z : FzE m F es kvs) (hl : ∀ q ∈ kvs, (leafOf q.1).isSome = true) :
    ∃ ps, h.DictOf (lk P w) a ps ∧ LP es ps := by
  obtain ⟨hs, hz, hn, ees, ep, hx, hd, pr⟩ := p
  obtain ⟨ps, i1, i2, i3⟩ := leafPairs (P := P) (w := w) z hl pr
  refine ⟨ps, ⟨o, ees, ep, ho, hx, hd, fun x hx => i3 x (by simpa using hx), i1, ?_⟩, i2⟩
  rw [i2.keys] at hn
  have : (ps.map (fun p => p.1.key)) = (ps.map (·.1)).map Leaf.key := by rw [List.map_map]; rfl
  rw [this] at hn
  exact nodup_of_map hn
/-- .. and back -/
theorem DProp.ofLeaf {h : Heap} {a : Addr} {es : List DE} {ps : List (Leaf × Value)} (hd : h.DictOf (lk P w) a ps) (z : LP es ps) (hs : (a == sysModules) = false) (hz : es.length ≤ sizeLine) : ∃ o, h.get? a = some o ∧ DProp w a es o := by
  obtain ⟨o, ees, ep, ho, hx, hdat, hk, hp, hn⟩ := hd
  refine ⟨o, ho, hs, hz, ?_, ees, ep, hx, hdat, ?_⟩
  · rw [z.keys]
    have : (ps.map (fun p => p.1.key)) = (ps.map (·.1)).map Leaf.key := by rw [List.map_map]; rfl
    rw [this]
    exact nodup_map (fun a b => Leaf.key_inj) hn
  · have key : ∀ {es : List DE} {ps : List (Leaf × Value)} {xs : List DictEntry}, LP es ps → (∀ x ∈ xs, ∃ k, (lk P w).is k x.key = true ∧ x.hash = (lk P w).hash k) → Pairs (lk P w) xs ps →
        Paired (fun (e : DE) (x : DictEntry) => x.hash = e.nk.hash w ∧ RelV e.k x.key ∧ RelV e.v x.val) es xs := by
      intro es ps xs z
      induction z generalizing xs with
      | nil => intro _ pr; cases pr; exact .nil
      | cons r t ih =>
        intro hk pr
        cases pr with
        | cons p1 p2 p3 =>
          obtain ⟨k, k1, k2⟩ := hk _ List.mem_cons_self
          have ek := (lk P w).inj _ _ _ k1 p1
          subst ek
          refine .cons ⟨?_, ?_, ?_⟩ (ih (fun x hx => hk x (List.mem_cons_of_mem _ hx)) p3)
          · rw [k2, ← r.1]; rfl
          · rw [r.2.1]; exact lk_rel p1
          · rw [p2]; exact r.2.2
    exact key z (fun x hx => hk x (by simpa using hx)) hp
end

/-! ### .. tuples -/
abbrev TP : List DE → List (NestedKey × Addr × Value) → Prop := Paired fun e x => x.1 = e.nk ∧ e.k = .ref x.2.1 ∧ RelV e.v x.2.2
theorem TP.get {nk : NestedKey} : ∀ {es : List DE} {ps : List (NestedKey × Addr × Value)}, TP es ps → (∀ v, eget es nk = some v → ∃ u, atKey ps nk = some u ∧ RelV v u.2) ∧ (eget es nk = none → atKey ps nk = none)
  | _, _, .nil => ⟨fun d h => (by cases h), fun _ => rfl⟩
  | e :: es, p :: ps, .cons h t => by
    obtain ⟨i1, i2⟩ := TP.get (nk := nk) t
    by_cases q : p.1 = nk
    · have q2 : e.nk = nk := by rw [← h.1, q]
      have a1 : eget (e :: es) nk = some e.v := by unfold eget; rw [List.find?_cons_of_pos (by simpa using q2)]; rfl
      have a2 : atKey (p :: ps) nk = some p.2 := by unfold atKey; rw [List.find?_cons_of_pos (by simpa using q)]; rfl
      rw [a1, a2]
      exact ⟨fun d h' => (by cases h'; exact ⟨_, rfl, h.2.2⟩), fun h => (by cases h)⟩
    · have q2 : ¬ e.nk = nk := by rw [← h.1]; exact q
      have a1 : eget (e :: es) nk = eget es nk := by unfold eget; rw [List.find?_cons_of_neg (by simpa using q2)]
      have a2 : atKey (p :: ps) nk = atKey ps nk := by unfold atKey; rw [List.find?_cons_of_neg (by simpa using q)]
      rw [a1, a2]
      exact ⟨i1, i2⟩
theorem TP.repl {nk : NestedKey} {v : V} {u : Value} (r : RelV v u) : ∀ {es : List DE} {ps : List (NestedKey × Addr × Value)}, TP es ps → TP (es.map fun e => if e.nk = nk then ⟨e.nk, e.k, v⟩ else e) (ps.map (putAt nk u))
  | _, _, .nil => .nil
  | e :: es, p :: ps, .cons h t => by
    rw [List.map_cons, List.map_cons]
    unfold putAt
    by_cases q : p.1 = nk
    · have q2 : e.nk = nk := by rw [← h.1, q]
      rw [if_pos q, if_pos q2]
      exact .cons ⟨h.1, h.2.1, r⟩ (TP.repl r t)
    · have q2 : ¬ e.nk = nk := by rw [← h.1]; exact q
      rw [if_neg q, if_neg q2]
      exact .cons h (TP.repl r t)
theorem TP.anyk {nk : NestedKey} : ∀ {es : List DE} {ps : List (NestedKey × Addr × Value)}, TP es ps → (es.any fun e => decide (e.nk = nk)) = (atKey ps nk).isSome
  | _, _, .nil => rfl
  | e :: es, p :: ps, .cons h t => by
    rw [List.any_cons, TP.anyk t, ← h.1]
    unfold atKey
    by_cases q : p.1 = nk
    · rw [List.find?_cons_of_pos (by simpa using q)]; simp [q]
    · rw [List.find?_cons_of_neg (by simpa using q)]; simp [q]
theorem TP.put {nk : NestedKey} {b : Addr} {v : V} {u : Value} {es : List DE} {ps : List (NestedKey × Addr × Value)} (z : TP es ps) (r : RelV v u) : TP (eput es nk (.ref b) v) (storedH ps nk b u) := by
  unfold eput storedH
  rw [z.anyk]
  split
  · exact z.repl r
  · exact pa_app z (.cons ⟨rfl, rfl, r⟩ .nil)
theorem TP.keys : ∀ {es : List DE} {ps : List (NestedKey × Addr × Value)}, TP es ps → es.map (·.nk) = ps.map (·.1)
  | _, _, .nil => rfl
  | _, _, .cons h t => by rw [List.map_cons, List.map_cons, TP.keys t, h.1]
def tupKey : D → Option NestedKey
  | .tuple ds => match keysOf ds with
    | some ks => if (NestedKey.tup ks).depth ≤ 8 then some (.tup ks) else none
    | none => none
  | _ => none
theorem tup_key {d : D} {nk : NestedKey} (h : tupKey d = some nk) : keyOf d = some nk ∧ nk.depth ≤ 8 ∧ ∃ ds, d = .tuple ds := by
  unfold tupKey at h
  split at h
  · rename_i ds
    split at h
    · rename_i ks hk
      split at h
      · cases h
        refine ⟨?_, by assumption, _, rfl⟩
        unfold keyOf
        rw [hk]
      · cases h
    · cases h
  · cases h
theorem tup_ref {m : Md} {F : Hp} {v : V} {ds : List D} (z : Fz m F v (.tuple ds)) : ∃ a, v = .ref a := by cases z; exact ⟨_, rfl⟩
theorem tupPairs {X : Cx} {pins : List (Addr × Obj)} {σ : L2.St} {F H : Hp} {s : Shared} (I : Inv X pins σ H s) (sF : Sub F H) : ∀ {es : List DE} {kvs : List (D × D)} {xs : List DictEntry}, FzE (mdOf X) F es kvs → (∀ q ∈ kvs, (tupKey q.1).isSome = true) → Paired (fun (e : DE) (x : DictEntry) => x.hash = e.nk.hash X.w ∧ RelV e.k x.key ∧ RelV e.v x.val) es xs →
      ∃ ps, xs = ps.map (entryOfKey (nestedKind X.prog X.w)) ∧ TP es ps ∧ ∀ x ∈ ps, (nestedKind X.prog X.w).is s.heap x.1 x.2.1
  | _, _, _, .nil, _, pr => by cases pr; exact ⟨[], rfl, .nil, fun x hx => (by cases hx)⟩
  | e :: es, (kd, vd) :: kvs, _, .cons h1 h2 h3 t, hl, pr => by
    cases pr with
    | @cons _ x _ xs r rr =>
      obtain ⟨ps, i1, i2, i3⟩ := tupPairs I sF t (fun q hq => hl q (List.mem_cons_of_mem _ hq)) rr
      obtain ⟨nk, hnk⟩ := Option.isSome_iff_exists.mp (hl (kd, vd) List.mem_cons_self)
      obtain ⟨e1, e2, ds, e3⟩ := tup_key hnk
      subst e3
      rw [h1] at e1
      have e1 : e.nk = nk := Option.some.inj e1
      obtain ⟨b, hb⟩ := tup_ref h2
      have rk := r.2.1
      have ni := Fz.nested I sF h2 h1 rk
      rw [hb] at rk
      have rk : x.key = .ref b := rk
      rw [rk] at ni
      refine ⟨(e.nk, b, x.val) :: ps, ?_, .cons ⟨rfl, hb, r.2.2⟩ i2, fun y hy => ?_⟩
      · rw [List.map_cons, ← i1]
        congr 1
        obtain ⟨xh, xk, xv⟩ := x
        unfold entryOfKey
        cases rk
        have : xh = e.nk.hash X.w := r.1
        rw [this]; rfl
      · rcases List.mem_cons.mp hy with rfl | hy
        · exact ⟨ni, by rw [e1]; exact e2⟩
        · exact i3 y hy
theorem DProp.tup {X : Cx} {pins : List (Addr × Obj)} {σ : L2.St} {F H : Hp} {s : Shared} (I : Inv X pins σ H s) (sF : Sub F H) {a : Addr} {es : List DE} {o : Obj} {kvs : List (D × D)} (p : DProp X.w a es o) (ho : s.heap.get? a = some o) (z : FzE (mdOf X) F es kvs)
    (hl : ∀ q ∈ kvs, (tupKey q.1).isSome = true) : ∃ ps, s.heap.DictOfH (nestedKind X.prog X.w) a ps ∧ TP es ps := by
  obtain ⟨hs, hz, hn, ees, ep, hx, hd, pr⟩ := p
  obtain ⟨ps, i1, i2, i3⟩ := tupPairs I sF z hl pr
  exact ⟨ps, ⟨o, ees, ep, ho, hx, hd, i1, i3, by rw [← i2.keys]; exact hn⟩, i2⟩
theorem DProp.ofTup {P : Program} {w : World} {h : Heap} {a : Addr} {es : List DE} {ps : List (NestedKey × Addr × Value)} (hd : h.DictOfH (nestedKind P w) a ps) (z : TP es ps) (hs : (a == sysModules) = false) (hz : es.length ≤ sizeLine) : ∃ o, h.get? a = some o ∧ DProp w a es o := by
  obtain ⟨o, ees, ep, ho, hx, hdat, hp, hk, hn⟩ := hd
  refine ⟨o, ho, hs, hz, by rw [z.keys]; exact hn, ees, ep, hx, hdat, ?_⟩
  rw [hp]
  have key : ∀ {es : List DE} {ps : List (NestedKey × Addr × Value)}, TP es ps → Paired (fun (e : DE) (x : DictEntry) => x.hash = e.nk.hash w ∧ RelV e.k x.key ∧ RelV e.v x.val) es (ps.map (entryOfKey (nestedKind P w))) := by
    intro es ps z
    induction z with
    | nil => exact .nil
    | cons r t ih =>
      rw [List.map_cons]
      refine .cons ⟨?_, ?_, r.2.2⟩ ih
      · show NestedKey.hash w _ = _
        rw [r.1]
      · rw [r.2.1]; rfl
  exact key z
end T3
end

section
set_option autoImplicit false
/-! THE TREE LAYER, part M: dicts used. -/
namespace T3
open PySem PySem.Spec PyProof.Rows L2

/-- the key that a tree is, if all keys of a dict are of its kind -/
def isK (kvs : List (D × D)) (kd : D) : Option NestedKey := match leafOf kd with
  | some l => if (kvs.all fun q => (leafOf q.1).isSome) = true then some l.key else none
  | none => match tupKey kd with
    | some nk => if (kvs.all fun q => (tupKey q.1).isSome) = true then some nk else none
    | none => none
theorem isK_cases {kvs : List (D × D)} {kd : D} {nk : NestedKey} (h : isK kvs kd = some nk) :
    keyOf kd = some nk ∧ ((∃ l, leafOf kd = some l ∧ nk = l.key ∧ ∀ q ∈ kvs, (leafOf q.1).isSome = true) ∨ ((∃ ds, kd = .tuple ds) ∧ nk.depth ≤ 8 ∧ ∀ q ∈ kvs, (tupKey q.1).isSome = true)) := by
  unfold isK at h
  split at h
  · rename_i l hl
    split at h
    · rename_i ha
      cases h
      exact ⟨leaf_key hl, .inl ⟨l, hl, rfl, by simpa using ha⟩⟩
    · cases h
  · split at h
    · rename_i nk' hn
      split at h
      · rename_i ha
        cases h
        obtain ⟨h1, h2, h3⟩ := tup_key hn
        exact ⟨h1, .inr ⟨h3, h2, by simpa using ha⟩⟩
      · cases h
    · cases h
def rT2 (m : Md) (op : D → D → Option Out) : R2 := fun x y H Q => ∃ F d e o, Sub F H ∧ Tp m F H x d ∧ Tp m F H y e ∧ op d e = some o ∧ contO m F H Q o
theorem rule_T2 {m : Md} {op : D → D → Option Out} : Rule2 m (rT2 m op) op := fun F H x y d e o Q s hx hy ho hc => ⟨F, d, e, o, s, hx, hy, ho, hc⟩
def orE (op op' : D → D → Option Out) : D → D → Option Out := fun d e => match op d e with
  | some o => some o
  | none => op' d e
theorem Rule2.or {m : Md} {r r' : R2} {op op' : D → D → Option Out} (h : Rule2 m r op) (h' : Rule2 m r' op') : Rule2 m (fun x y H Q => r x y H Q ∨ r' x y H Q) (orE op op') := by
  intro F H x y d e o Q s hx hy ho hc
  unfold orE at ho
  cases q : op d e with
  | some o' => rw [q] at ho; cases ho; exact .inl (h F H x y d e _ Q s hx hy q hc)
  | none => rw [q] at ho; exact .inr (h' F H x y d e _ Q s hx hy ho hc)
section
variable {X : Cx} {pins : List (Addr × Obj)} {σ : L2.St} {F H : Hp} {s : Shared} {a : Addr} {o : Obj} {es : List DE} {kvs : List (D × D)} {y : V} {u : Value} {kd : D} {nk : NestedKey}
theorem Inv.dict (I : Inv X pins σ H s) (h : H a = some (dO a o)) : s.heap.get? a = some o := (I.hok a _ h).1
/-- a key is a key of the library's, in the one or the other way -/
inductive KeyAt (X : Cx) (s : Shared) (a : Addr) (es : List DE) (y : V) (u : Value) (nk : NestedKey) : Prop
  | leaf (l : Leaf) (ps : List (Leaf × Value)) : nk = l.key → y = lkV l → (lk X.prog X.w).is l u = true → s.heap.DictOf (lk X.prog X.w) a ps → LP es ps → KeyAt X s a es y u nk
  | tup (b : Addr) (ps : List (NestedKey × Addr × Value)) : y = .ref b → u = .ref b → (nestedKind X.prog X.w).is s.heap nk b → s.heap.DictOfH (nestedKind X.prog X.w) a ps → TP es ps → KeyAt X s a es y u nk
theorem keyAt (I : Inv X pins σ H s) (sF : Sub F H) (p : DProp X.w a es o) (h : H a = some (dO a o)) (z : FzE (mdOf X) F es kvs) (hk : Fz (mdOf X) F y kd) (r : RelV y u) (e : isK kvs kd = some nk) : KeyAt X s a es y u nk := by
  obtain ⟨e1, ⟨l, hl, e2, ha⟩ | ⟨⟨ds, e2⟩, hd, ha⟩⟩ := isK_cases e
  · obtain ⟨ps, d1, d2⟩ := p.leaf rfl (Inv.dict I h) z ha
    have ey := leaf_val hk hl
    exact .leaf l ps e2 ey (lk_is (by rw [← ey]; exact r)) d1 d2
  · obtain ⟨ps, d1, d2⟩ := p.tup I sF (Inv.dict I h) z ha
    subst e2
    have ni := Fz.nested I sF hk e1 r
    obtain ⟨b, hb⟩ := tup_ref hk
    subst hb
    cases r
    exact .tup b ps rfl rfl ⟨ni, hd⟩ d1 d2
end
def pInD (n : Bool) : D → D → Option Out := fun d e => match e with
  | .dict kvs => match isK kvs d with
    | some nk => some (.fz (.bool (n ^^ (dget kvs nk).isSome)))
    | none => none
  | _ => none
section
variable {X : Cx}
theorem isSome_get {es : List DE} {kvs : List (D × D)} {m : Md} {F : Hp} {nk : NestedKey} (z : FzE m F es kvs) : (dget kvs nk).isSome = (eget es nk).isSome := by
  obtain ⟨h1, h2⟩ := z.get (nk := nk)
  cases q : dget kvs nk with
  | none => rw [h2 q]; rfl
  | some d => obtain ⟨v, h3, _⟩ := h1 d q; rw [h3]; rfl
theorem LP.isSome {es : List DE} {ps : List (Leaf × Value)} {l : Leaf} (z : LP es ps) : (eget es l.key).isSome = (valueAt ps l).isSome := by
  obtain ⟨h1, h2⟩ := z.get (l := l)
  cases q : eget es l.key with
  | none => rw [h2 q]; rfl
  | some d => obtain ⟨v, h3, _⟩ := h1 d q; rw [h3]; rfl
theorem TP.isSome {es : List DE} {ps : List (NestedKey × Addr × Value)} {nk : NestedKey} (z : TP es ps) : (eget es nk).isSome = (atKey ps nk).isSome := by
  obtain ⟨h1, h2⟩ := z.get (nk := nk)
  cases q : eget es nk with
  | none => rw [h2 q]; rfl
  | some d => obtain ⟨v, h3, _⟩ := h1 d q; rw [h3]; rfl
theorem keyed_of {P : Program} {w : World} {h : Heap} {a : Addr} {ps : List (NestedKey × Addr × Value)} (d : h.DictOfH (nestedKind P w) a ps) : h.DictKeyed (nestedKind P w) a (pairsH ps) := ⟨ps, d, rfl⟩
theorem room_of (hu : X.A.units + 65 < cLine) : (nestedKind X.prog X.w).room X.A.in1 := by
  show X.A.in1.units + 8 < cLine
  have : X.A.in1.units ≤ X.A.units + 1 := by first | exact Nat.le_refl _ | (unfold Around.in1; exact Nat.le_refl _)
  omega
theorem Tp.dct {m : Md} {F H : Hp} {v : V} {kvs : List (D × D)} (h : Tp m F H v (.dict kvs)) : ∃ a o es, v = .ref a ∧ H a = some (dO a o) ∧ DProp m.w a es o ∧ FzE m F es kvs := h
theorem leaf_tp {m : Md} {F H : Hp} {v : V} {d : D} {nk : NestedKey} (h : Tp m F H v d) (e : keyOf d = some nk) : Fz m F v d := by
  cases d <;> first | exact h | cases e
theorem op_inDct (n : Bool) (hu : X.A.units + 65 < cLine) : OpR X (compareOp (if n then .NotIn else .In)) (rT2 (mdOf X) (pInD n)) := by
  intro pins s σ H x y v u Q I rx ry h
  obtain ⟨F, d, e, ot, sF, hx, hy, ho, hc⟩ := h
  unfold pInD at ho
  split at ho
  · rename_i kvs
    split at ho
    · rename_i nk hk
      cases ho
      obtain ⟨a, o, es, rfl, h1, h2, h3⟩ := hy.dct
      cases ry
      have hxk := leaf_tp hx (isK_cases hk).1
      have q := hc (.bl (n ^^ (dget kvs nk).isSome)) (.bl _)
      rw [isSome_get h3] at q
      rcases keyAt I sF h2 h1 h3 hxk rx hk with ⟨l, ps, rfl, rfl, k1, k2, k3⟩ | ⟨b, ps, rfl, rfl, k1, k2, k3⟩
      · rw [k3.isSome] at q
        cases n with
        | false =>
          rw [Bool.false_xor] at q
          exact wpAny_in_of k1 h2.1 k2.mapOf ⟨.bl _, H, I.tok _, rfl, q⟩
        | true =>
          rw [Bool.true_xor] at q
          exact wpAny_notIn_of k1 h2.1 k2.mapOf ⟨.bl _, H, I.tok _, rfl, q⟩
      · rw [k3.isSome] at q
        have kk := keyed_of k2
        have e1 : (atKey ps nk).isSome = (valueAt (pairsH ps) nk).isSome := by rw [valueAt_pairsH, Option.isSome_map]
        rw [e1] at q
        cases n with
        | false =>
          rw [Bool.false_xor] at q
          exact in_keyed (room_of hu) k1 h2.1 kk ⟨.bl _, H, I.tok _, rfl, q⟩
        | true =>
          rw [Bool.true_xor] at q
          exact notIn_keyed (room_of hu) k1 h2.1 kk ⟨.bl _, H, I.tok _, rfl, q⟩
    · cases ho
  · cases ho
def pIxD : D → D → Option Out := fun d e => match d with
  | .dict kvs => match isK kvs e with
    | some nk => match dget kvs nk with
      | some v => some (.fz v)
      | none => none
    | none => none
  | _ => none
theorem ix_dct (hu : X.A.units + 65 < cLine) : IxR X (rT2 (mdOf X) pIxD) := by
  intro value slice pins s σ H x y v u Q I rx ry h hs
  obtain ⟨F, d, e, ot, sF, hx, hy, ho, hc⟩ := h
  unfold pIxD at ho
  split at ho
  · rename_i kvs
    split at ho
    · rename_i nk hk
      split at ho
      · rename_i vd hv
        cases ho
        obtain ⟨a, o, es, rfl, h1, h2, h3⟩ := hx.dct
        cases rx
        have hyk := leaf_tp hy (isK_cases hk).1
        obtain ⟨w, g1, g2⟩ := h3.get.1 _ hv
        have q := hc w g2
        rcases keyAt I sF h2 h1 h3 hyk ry hk with ⟨l, ps, rfl, rfl, k1, k2, k3⟩ | ⟨b, ps, rfl, rfl, k1, k2, k3⟩
        · obtain ⟨u', g3, g4⟩ := k3.get.1 _ g1
          exact tail_any (ops := [.ref a, u]) k2.typeIs PySem.F.slot_dict_getitem.lookup (wpAny_getItem_of k1 k2.mapOf g3 ⟨w, H, I.tok _, g4, q⟩) hs
        · obtain ⟨u', g3, g4⟩ := k3.get.1 _ g1
          have kk := keyed_of k2
          have e1 : valueAt (pairsH ps) nk = some u'.2 := by rw [valueAt_pairsH, g3]; rfl
          exact tail_any (ops := [.ref a, .ref b]) k2.typeIs PySem.F.slot_dict_getitem.lookup (getItem_keyed (room_of hu) k1 kk e1 ⟨w, H, I.tok _, g4, q⟩) hs
      · cases ho
    · cases ho
  · cases ho

/-! ### d[k] = v -/
def opSetD : D → D → D → Option D := fun d i v => match d with
  | .dict kvs => match isK kvs i with
    | some nk => if kvs.length < line then some (.dict (dput kvs nk i v)) else none
    | none => none
  | _ => none
def rSetD (m : Md) : TSet := fun x y z H Q => ∃ F l kvs i vd nk, x = .ref l ∧ Sub F H ∧ F l = none ∧ OwnAt m F H l (.dict kvs) ∧ Fz m F y i ∧ Fz m F z vd ∧ isK kvs i = some nk ∧ kvs.length < line ∧
  ∀ o, OwnAt m F (upd H l o) l (.dict (dput kvs nk i vd)) → Q (upd H l o)
theorem rule_setD {m : Md} : RuleS m (rSetD m) opSetD := by
  intro F H l d i id v vd d' Q s nf ow hi hv e q
  unfold opSetD at e
  split at e
  · rename_i kvs
    split at e
    · rename_i nk hk
      split at e
      · rename_i hl
        cases e
        exact ⟨F, l, kvs, id, vd, nk, rfl, s, nf, ow, hi, hv, hk, hl, q⟩
      · cases e
    · cases e
  · cases e
theorem Inv.dput {pins : List (Addr × Obj)} {σ : L2.St} {H : Hp} {s : Shared} {a : Addr} {o o' : Obj} {h' : Heap} {t : Nat} (I : Inv X pins σ H s) (hH : H a = some (dO a o)) (hs : Heap.SameBut a s.heap h') (ho : h'.get? a = some o') :
    Inv X pins σ (upd H a (dO a o')) { s with heap := h', toks := t } :=
  I.write (e := a) (by rw [hH]; trivial) (.inl rfl) (fun b u hb q => (hs.2 b hb).trans q) ⟨o', ho⟩ ⟨ho, ⟨o', ho⟩, fun h1 h2 e1 e2 => e2 o' e1⟩
theorem set_dct (hu : X.A.units + 65 < cLine) : PSet X (rSetD (mdOf X)) := by
  intro pins s σ H x y z v u w Q I rx ry rz h
  obtain ⟨F, l, kvs, i, vd, nk, rfl, sF, nf, ⟨o, es, h1, h2, h3⟩, hi, hv, hk, hl, q⟩ := h
  cases rx
  have hz : (eput es nk y z).length ≤ sizeLine := by
    have e1 := eput_length es nk y z
    have e2 := h3.length
    rw [line_eq] at hl
    omega
  have hes : es.length ≤ sizeLine := h2.2.1
  have new : ∀ {o' : Obj}, DProp X.w l (eput es nk y z) o' → OwnAt (mdOf X) F (upd H l (dO l o')) l (.dict (dput kvs nk i vd)) := fun {o'} hp => ⟨o', _, upd_same, hp, h3.put (isK_cases hk).1 hi hv⟩
  rcases keyAt I sF h2 h1 h3 hi ry hk with ⟨lf, ps, rfl, rfl, k1, k2, k3⟩ | ⟨b, ps, rfl, rfl, k1, k2, k3⟩
  · refine wpAny_setItem_pairs (hsz := by rw [← Paired.length k3]; exact hes) k1 k2 fun h' d' sb => ?_
    obtain ⟨o', e1, e2⟩ := DProp.ofLeaf d' (k3.put rz) h2.1 hz
    exact ⟨_, Inv.dput I h1 sb e1, q _ (new e2)⟩
  · refine wpAny_setItem_heap (hsz := by rw [← Paired.length k3]; exact hes) (room_of hu) k1 k2 fun h' d' sb => ?_
    obtain ⟨o', e1, e2⟩ := DProp.ofTup d' (k3.put rz) h2.1 hz
    exact ⟨_, Inv.dput I h1 sb e1, q _ (new e2)⟩
/-- of a list, of a dict -/
def orS (op op' : D → D → D → Option D) : D → D → D → Option D := fun d e f => match op d e f with
  | some o => some o
  | none => op' d e f
theorem RuleS.or {m : Md} {r r' : TSet} {op op' : D → D → D → Option D} (h : RuleS m r op) (h' : RuleS m r' op') : RuleS m (fun x y z H Q => r x y z H Q ∨ r' x y z H Q) (orS op op') := by
  intro F H l d i id v vd d' Q s nf ow hi hv e q
  unfold orS at e
  cases g : op d id vd with
  | some o => rw [g] at e; cases e; exact .inl (h F H l d i id v vd _ Q s nf ow hi hv g q)
  | none => rw [g] at e; exact .inr (h' F H l d i id v vd _ Q s nf ow hi hv e q)
theorem PSet.or {r r' : TSet} (h : PSet X r) (h' : PSet X r') : PSet X (fun x y z H Q => r x y z H Q ∨ r' x y z H Q) := by
  intro pins s σ H x y z v u w Q I rx ry rz q
  rcases q with q | q
  · exact h pins s σ H x y z v u w Q I rx ry rz q
  · exact h' pins s σ H x y z v u w Q I rx ry rz q

/-! ### {} -/
def vDict0 : EX := fun env => .ok (.ow (.dict [])) env
theorem px_dict0 {k : Kx} {pos : Pos} : PX X k (.Dict [] [] pos) vDict0 := by
  refine ⟨fun pins s σ H Q I h => ?_⟩
  obtain ⟨c, F, env, hm, R, q⟩ := h
  have hn := I.hok.fresh (Nat.le_refl s.heap.objs.size)
  obtain ⟨o, e1, e2⟩ := DProp.ofLeaf (P := X.prog) (w := X.w) (Heap.DictOf.new s.heap) (es := []) .nil (beq_eq_false_iff_ne.mpr (Ne.symm (Nat.ne_of_lt I.big))) (Nat.zero_le _)
  have I1 : Inv X pins σ (upd H s.heap.objs.size (dO s.heap.objs.size o)) { s with heap := s.heap.push { cls := .type "dict", data := .dict #[] } } :=
    I.laid (t' := s.toks) (fun _ _ q => Heap.get?_push_of_some _ q) (Nat.le_refl _) ⟨e1, ⟨o, e1⟩, fun h1 h2 e1 e2 => e2 o e1⟩
  refine wpAny_Dict_empty ⟨.ref s.heap.objs.size, _, I1, rfl, ?_⟩
  exact cont_of (o := .nd []) R q _ o [] hn e2 .nil
end
end T3
end

section
set_option autoImplicit false
/-! THE TREE LAYER, part N: displays of dicts. -/
namespace T3
open PySem PySem.Spec PyProof.Rows L2
abbrev FzP (m : Md) (F : Hp) : List (V × V) → List (D × D) → Prop := Paired fun p q => Fz m F p.1 q.1 ∧ Fz m F p.2 q.2
theorem FzP.mono {m : Md} {F G : Hp} (s : Sub F G) : ∀ {ps : List (V × V)} {ds : List (D × D)}, FzP m F ps ds → FzP m G ps ds
  | _, _, .nil => .nil
  | _, _, .cons h t => .cons ⟨h.1.mono s, h.2.mono s⟩ (FzP.mono s t)
abbrev DX := En → R (List (D × D))
def postD (m : Md) (k : Kx) (c : Cn) (F : Hp) (σ : L2.St) (Q : List (V × V) → Hp → Prop) : R (List (D × D)) → Prop
  | .ok ds e => ∀ F' H' ps, Sub F F' → Rl m c F' σ H' e → FzP m F' ps ds → Q ps H'
  | .exc n i e => ∀ F' H', Sub F F' → Rl m c F' σ H' e → k.W n i σ H'
  | .bad => False
def tD (m : Md) (k : Kx) (g : DX) (σ : L2.St) (H : Hp) (Q : List (V × V) → Hp → Prop) : Prop := ∃ c F env, c.M.map (·.1) = k.ms ∧ Rl m c F σ H env ∧ postD m k c F σ Q (g env)
structure PDX (X : Cx) (k : Kx) (pos : Pos) (keys : List (Option Expr)) (values : List Expr) (g : DX) : Prop where
  run : ∀ (pins : List (Addr × Obj)) (s : Shared) (σ : L2.St) (H : Hp) (Q : List (V × V) → Hp → Prop), Inv X pins σ H s → tD (mdOf X) k g σ H Q →
    wpAny (model X.prog X.w) X.A (evalPairs (pairTrees keys values X.env pos)) (fun vs s' => ∃ ps H', Inv X pins σ H' s' ∧ VV ps vs ∧ Q ps H') X.xe s
def dNil : DX := fun env => .ok [] env
def dCons (ms : List Nat) (fk fv : EX) (g : DX) : DX := fun env => match fz ms fk env with
  | .ok (.fz kd) e1 => match fz ms fv e1 with
    | .ok (.fz vd) e2 => match g e2 with
      | .ok ds e3 => .ok ((kd, vd) :: ds) e3
      | .exc n i e => .exc n i e
      | .bad => .bad
    | .exc n i e => .exc n i e
    | _ => .bad
  | .exc n i e => .exc n i e
  | _ => .bad
section
variable {X : Cx} {k : Kx} {pos : Pos}
theorem pdx_nil : PDX X k pos [] [] dNil := ⟨fun pins s σ H Q I ⟨c, F, env, hm, R, q⟩ => pairTrees_nil_walk ⟨[], H, I, .nil, q F H [] (Same.refl _) R .nil⟩⟩
theorem pdx_cons {ke ve : Expr} {ks : List (Option Expr)} {vs : List Expr} {fk fv : EX} {g : DX} (hk : PX X k ke fk) (hv : PX X k ve fv) (hr : PDX X k pos ks vs g) : PDX X k pos (some ke :: ks) (ve :: vs) (dCons k.ms fk fv g) := by
  refine ⟨fun pins s σ H Q I ⟨c, F, env, hm, R, q⟩ => ?_⟩
  unfold dCons at q
  refine pairTrees_cons_walk (thn (hk.fz.run pins s σ H (fun x H1 => tX (mdOf X) k (fz k.ms fv) σ H1 fun y H2 => tD (mdOf X) k g σ H2 fun ps H3 => Q ((x, y) :: ps) H3) I ⟨c, F, env, hm, R, ?_⟩) fun u s1 ⟨x, H1, I1, rx, q1⟩ =>
    thn (hv.fz.run pins s1 σ H1 _ I1 q1) fun w2 s2 ⟨y, H2, I2, ry, q2⟩ => thn (hr.run pins s2 σ H2 _ I2 q2) fun ws s3 ⟨ps, H3, I3, rel, q3⟩ => ⟨(x, y) :: ps, H3, I3, .cons ⟨rx, ry⟩ rel, q3⟩)
  cases e1 : fz k.ms fk env with
  | bad => rw [e1] at q; exact q
  | exc n i e => rw [e1] at q; exact q
  | ok r ea =>
    rw [e1] at q
    cases r with
    | sl j => exact q.elim
    | ow d => exact q.elim
    | fz kd =>
      intro F1 H1 v s1 R1 z1
      refine ⟨c, F1, ea, hm, R1, ?_⟩
      dsimp only at q
      cases e2 : fz k.ms fv ea with
      | bad => rw [e2] at q; exact q
      | exc n i e => rw [e2] at q; exact fun F2 H2 s2 R2 => q F2 H2 (s1.trans s2) R2
      | ok r eb =>
        rw [e2] at q
        cases r with
        | sl j => exact q.elim
        | ow d => exact q.elim
        | fz vd =>
          intro F2 H2 v2 s2 R2 z2
          refine ⟨c, F2, eb, hm, R2, ?_⟩
          dsimp only at q
          cases e3 : g eb with
          | bad => rw [e3] at q; exact q
          | exc n i e => rw [e3] at q; exact fun F3 H3 s3 R3 => q F3 H3 ((s1.trans s2).trans s3) R3
          | ok ds ec =>
            rw [e3] at q
            exact fun F3 H3 ps s3 R3 zs => q F3 H3 _ ((s1.trans s2).trans s3) R3 (.cons ⟨z1.mono (s2.trans s3), z2.mono s3⟩ zs)
end
def dputs (kvs : List (D × D)) : List (D × D) → List (D × D)
  | [] => kvs
  | (kd, vd) :: ds => match leafOf kd with
    | some l => dputs (dput kvs l.key kd vd) ds
    | none => kvs
theorem dputs_ok {P : Program} {w : World} {m : Md} {F : Hp} : ∀ {ds : List (D × D)} {vps : List (V × V)} {us : List (Value × Value)} {es : List DE} {ps : List (Leaf × Value)} {kvs : List (D × D)}, FzP m F vps ds → VV vps us → (∀ q ∈ ds, (leafOf q.1).isSome = true) →
    LP es ps → FzE m F es kvs → ∃ es' rs, Carries (lk P w) us rs ∧ LP es' (merged ps rs) ∧ FzE m F es' (dputs kvs ds) ∧ es'.length ≤ es.length + ds.length
  | [], _, _, es, ps, kvs, .nil, r, _, z1, z2 => by cases r; exact ⟨es, [], trivial, z1, z2, Nat.le_refl _⟩
  | (kd, vd) :: ds, p :: _, _, es, ps, kvs, .cons h t, r, hl, z1, z2 => by
    cases r with
    | @cons _ u _ _ r rr =>
      obtain ⟨l, hlf⟩ := Option.isSome_iff_exists.mp (hl (kd, vd) List.mem_cons_self)
      have ek := leaf_val h.1 hlf
      have r1 := r.1
      rw [ek] at r1
      have f1 := z2.put (leaf_key hlf) h.1 h.2
      rw [ek] at f1
      obtain ⟨es', rs, c1, c2, c3, c4⟩ := dputs_ok (P := P) (w := w) t rr (fun q hq => hl q (List.mem_cons_of_mem _ hq)) (z1.put r.2) f1
      refine ⟨es', (l, u.2) :: rs, ⟨lk_is r1, rfl, c1⟩, c2, ?_, ?_⟩
      · unfold dputs
        rw [hlf]
        exact c3
      · have := eput_length es l.key (lkV l) p.2
        rw [List.length_cons]; omega
def vDict (g : DX) : EX := fun env => match g env with
  | .ok ds e => if (ds.all fun q => (leafOf q.1).isSome) = true ∧ ds.length ≤ 15 then .ok (.ow (.dict (dputs [] ds))) e else .bad
  | .exc n i e => .exc n i e
  | .bad => .bad
theorem px_dict {X : Cx} {k : Kx} {pos : Pos} {keys : List (Option Expr)} {values : List Expr} {g : DX} (h : PDX X k pos keys values g) (hall : keys.all (·.isSome) = true := by rfl) (hl : keys.length = values.length := by rfl) (h0 : keys ≠ [] := by exact fun h => nomatch h)
    (h15 : keys.length ≤ 15 := by decide) : PX X k (.Dict keys values pos) (vDict g) := by
  refine ⟨fun pins s σ H Q I ⟨c, F, env, hm, R, q⟩ => ?_⟩
  have hn := I.hok.fresh (Nat.le_refl s.heap.objs.size)
  obtain ⟨o, e1, e2⟩ := DProp.ofLeaf (P := X.prog) (w := X.w) (Heap.DictOf.new s.heap) (es := []) .nil (beq_eq_false_iff_ne.mpr (Ne.symm (Nat.ne_of_lt I.big))) (Nat.zero_le _)
  have I1 : Inv X pins σ (upd H s.heap.objs.size (dO s.heap.objs.size o)) { s with heap := s.heap.push { cls := .type "dict", data := .dict #[] } } :=
    I.laid (t' := s.toks) (fun _ _ q => Heap.get?_push_of_some _ q) (Nat.le_refl _) ⟨e1, ⟨o, e1⟩, fun h1 h2 e1 e2 => e2 o e1⟩
  have R1 := (R.laid (o := dO s.heap.objs.size o) hn).pinIt upd_same (R.Fnone hn) (R.free_of_none hn).1
  have H0n := R.H0none hn
  have pn := (R.free_of_none hn).2
  generalize hL : s.heap.objs.size = L at *
  have run := h.run pins _ σ _ (fun ps H2 => ∃ F2 e3 ds, Sub F F2 ∧ Rl (mdOf X) (c.pinned L (dO L o)) F2 σ H2 e3 ∧ FzP (mdOf X) F2 ps ds ∧ postX (mdOf X) k c F σ Q (if (ds.all fun q => (leafOf q.1).isSome) = true ∧ ds.length ≤ 15 then .ok (.ow (.dict (dputs [] ds))) e3 else .bad)) I1
    ⟨c.pinned L (dO L o), F, env, hm, R1, by
      unfold vDict at q
      cases e3 : g env with
      | bad => rw [e3] at q; exact q
      | exc n i e => rw [e3] at q; exact fun F' H' s R => q F' H' s R.unpin
      | ok ds ea => rw [e3] at q; exact fun F' H' ps s R z => ⟨F', ea, ds, s, R, z, q⟩⟩
  refine wpAny_Dict_walk (knd := lk X.prog X.w) hall hl h0 h15 (thn run fun ws s2 ⟨ps, H2, I2, rel, F2, e3, ds, sF, R2, z, q2⟩ => ?_)
  split at q2
  · rename_i hd
    obtain ⟨k1, k2, k3⟩ := R2.pin (L, dO L o) List.mem_cons_self
    have ho := Inv.dict I2 k1
    obtain ⟨ps0, d1, d2⟩ := DProp.leaf (P := X.prog) (m := mdOf X) (F := F2) rfl e2 ho .nil (fun q hq => by cases hq)
    cases d2
    obtain ⟨es', rs, c1, c2, c3, c4⟩ := dputs_ok (P := X.prog) (w := X.w) z rel (by simpa using hd.1) (es := []) .nil .nil
    rw [hL]
    refine ⟨rs, c1, d1, fun h' d' sb => ?_⟩
    have hz : es'.length ≤ sizeLine := by
      rw [sizeLine_eq]
      have := hd.2
      rw [List.length_nil] at c4
      omega
    obtain ⟨o', f1, f2⟩ := DProp.ofLeaf d' c2 e2.1 hz
    have I3 := Inv.dput (t := s2.toks + ws.length) I2 k1 sb f1
    refine ⟨.ref L, _, I3, rfl, ?_⟩
    have R3 := R2.repin (o' := dO L o') H0n pn
    refine q2 F2 _ (.ref L) sF R3.unpin ⟨L, rfl, ⟨k2, .inl H0n, ⟨o', es', upd_same, f2, c3⟩⟩, ?_, ?_⟩
    · exact k3
    · exact pn
  · exact q2.elim
end T3
end

section
set_option autoImplicit false
/-! THE TREE LAYER, part P: defs and calls by names. -/
namespace T3
open PySem PySem.Spec PyProof.Rows L2
def ew0 : EW := fun _ _ _ _ => False
/-- the function at f -/
def FdOf (K : PySem.W.Frag) (f : Addr) (fd : FuncData) : Prop := ∃ (oc : Value) (od : Option Addr) (osl : Array (Option Value)), K.lookup f = some ⟨oc, od, .func fd, osl⟩
theorem fdOf {K : PySem.W.Frag} {x qual : Str} {a : Arguments} {b : List Stmt} {sc : Scope} {f : Addr} {fd : FuncData} (F : FunD K x qual a b sc [] [] f fd) : FdOf K f fd := by
  obtain ⟨oc, od, dV, kV, doc, pm, an, cdv, ct, osl, rfl, lk, _⟩ := F.ex
  exact ⟨oc, od, osl, lk⟩
theorem FdOf.inj {K : PySem.W.Frag} {f : Addr} {fd fd' : FuncData} (h : FdOf K f fd) (h' : FdOf K f fd') : fd = fd' := by
  obtain ⟨_, _, _, e⟩ := h
  obtain ⟨_, _, _, e'⟩ := h'
  rw [e] at e'
  cases e'
  rfl
section
variable (P : Program) (w : World) (K : PySem.W.Frag) (mg : Str → Option Value) (base : Heap)
/-- the module's name x stands for a def that keeps its promise -/
structure Callee (k : Nat) (x : Str) (ps : List Str) (io fresh : Bool) (ew : EW) (fn : List D → FR) : Prop where
  ex : ∃ f fd, FnOk P w K mg base (L2.CX P w) k f fd ps (spT ⟨P, w, K⟩ io fresh ew fn) ∧ mg x = some (.ref f) ∧ PySem.W.keepIn K (.ref f) = true ∧ Binds K fd ps [] ∧ FdOf K f fd
/-- .. for the def st -/
structure DefAt (x : Str) (st : Stmt) (ps : List Str) : Prop where
  ex : ∃ f fd, FunD K x x (defArgs st) (defBody st) (defScope st) [] [] f fd ∧ mg x = some (.ref f) ∧ Binds K fd ps []
end
section
variable {P : Program} {w : World} {K : PySem.W.Frag} {mg : Str → Option Value} {base : Heap}
theorem Callee.mono {j k : Nat} {x : Str} {ps : List Str} {io fresh : Bool} {ew : EW} {fn : List D → FR} (C : Callee P w K mg base j x ps io fresh ew fn) (h : j ≤ k) : Callee P w K mg base k x ps io fresh ew fn := by
  obtain ⟨f, fd, h1, h2⟩ := C.ex
  exact ⟨f, fd, h1.mono h, h2⟩
theorem fn_okD {x : Str} {st : Stmt} {N ps : List Str} {k : Nat} (D : DefAt K mg x st ps) (S : FnScope N ps (defScope st)) (io fresh : Bool) (ew : EW) (body : SX)
    (hb : ∀ (f : Addr) (cdv : Value) (A : Around) (outer : List Env) (s : Shared) (H : Hp) (E : XK), Room k (A.deeper (envOfC x (defScope st) s.heap.objs.size f cdv)) →
      PSsX (cxOf (L2.CX P w) P w K mg base N x (defScope st) f cdv A outer s H E) ⟨fun n i _ H' => ew n i E H', msOf io ps.length⟩ (defBody st) body) :
    Callee P w K mg base (k + 1) x ps io fresh ew (mkFn ps.length N.length io fresh body) := by
  obtain ⟨f, fd, F, hm, hbi⟩ := D.ex
  refine ⟨f, fd, ?_, hm, F.kp, hbi, fdOf F⟩
  refine F.ok S (fun vs H Q E h => spT_len h) fun cdv A outer s H vs Q E hr hsp => ⟨_, hb f cdv A outer s H E hr, ?_⟩
  have hlen := spT_len hsp
  obtain ⟨F0, ds, ro, rfl, s0, a, p⟩ := hsp
  unfold mkFn at p
  split at p
  · rename_i hl
    have hN := len_of_scope S
    have R := Rl.start (N := N) s0 a (by omega)
    refine ⟨_, _, _, ?_, R, ?_⟩
    · cases ro with
      | none => rfl
      | some r => show [ds.length - 1] = msOf true ps.length; rw [hl.1]; rfl
    · rw [hl.1]
      exact post_finish (fun n i σ H' h => h) p
  · exact p.elim
end
section
variable {X : Cx} {kx : Kx} {j : Nat} {ps : List Str} {fresh : Bool} {ew : EW} {fn : List D → FR} {x : Str} {p pos : Pos} {e : Expr} {es : List Expr} {ga : AX}
theorem px_c (C : Callee X.prog X.w X.K X.mg X.base j x ps false fresh ew fn) (hr : Room j X.A) (ha : PAX X kx (e :: es) ga)
    (hg : Gl X x := by rfl) (hdb : (x == ("__debug__" : Str)) = false := by decide) (he : starEach (e :: es) X.env = (false, eval e X.env) :: starEach es X.env := by rfl) (hpl : (backTo pos (starEach es X.env)).any (·.1) = false := by rfl) :
    PX X kx (.Call (.Name x p) (e :: es) [] pos) (callF fresh fn ga) := by
  obtain ⟨f, fd, h1, h2, h3, h4, _⟩ := C.ex
  exact px_call h1 hr h2 h3 h4 ha hg hdb he hpl
theorem px_c0 (C : Callee X.prog X.w X.K X.mg X.base j x ps false fresh ew fn) (hr : Room j X.A) (hg : Gl X x := by rfl) (hdb : (x == ("__debug__" : Str)) = false := by decide) :
    PX X kx (.Call (.Name x p) [] [] pos) (callF fresh fn aNil) := by
  obtain ⟨f, fd, h1, h2, h3, h4, _⟩ := C.ex
  exact px_call0 h1 hr h2 h3 h4 hg hdb
theorem px_cIo (C : Callee X.prog X.w X.K X.mg X.base j x ps true fresh ew fn) (hr : Room j X.A) (ha : PAX X kx (e :: es) ga)
    (hg : Gl X x := by rfl) (hdb : (x == ("__debug__" : Str)) = false := by decide) (he : starEach (e :: es) X.env = (false, eval e X.env) :: starEach es X.env := by rfl) (hpl : (backTo pos (starEach es X.env)).any (·.1) = false := by rfl) :
    PX X kx (.Call (.Name x p) (e :: es) [] pos) (callIo fresh fn ga) := by
  obtain ⟨f, fd, h1, h2, h3, h4, _⟩ := C.ex
  exact px_callIo h1 hr h2 h3 h4 ha hg hdb he hpl
/-- a global that is a text, a number -/
theorem px_gs {k : Kx} {z : Str} (h : ∃ t, X.mg x = some (.str z t)) (hg : Gl X x := by rfl) (hd : (x == ("__debug__" : Str)) = false := by decide) : PX X k (.Name x pos) (vC (.str z)) := by
  obtain ⟨t, h⟩ := h
  exact px_glob hg h (v := .str z) ⟨t, rfl⟩ (fun F => .str z) hd
theorem px_gi {k : Kx} {z : Int} (h : ∃ t, X.mg x = some (.int z t)) (hg : Gl X x := by rfl) (hd : (x == ("__debug__" : Str)) = false := by decide) : PX X k (.Name x pos) (vC (.int z)) := by
  obtain ⟨t, h⟩ := h
  exact px_glob hg h (v := .int z) ⟨t, rfl⟩ (fun F => .int z) hd
end

/-! ### words with all their kinds -/
def pIxA : D → D → Option Out := orE pIx pIxD
def pInA (n : Bool) : D → D → Option Out := orE (pIn n) (pInD n)
section
variable {X : Cx} {k : Kx} {a b : Expr} {f g : EX} {pos : Pos} {j : Nat}
theorem px_ixA (hr : Room j X.A) (ha : PX X k a f) (hb : PX X k b g) (hs : PlainIx b := by exact fun _ _ => by with_unfolding_all rfl) : PX X k (.Subscript a b pos) (op2 pIxA f g) :=
  px_ix (op_ixA.or (ix_dct (by have := hr.un; omega))) (rule_ix.or rule_T2) ha hb hs
theorem px_inA (hr : Room j X.A) (ha : PX X k a f) (hb : PX X k b g) (hm : behindInMarks .In b = false := by rfl) : PX X k (.Compare a [.In] [b] pos) (op2 (pInA false) f g) :=
  px_cmp ((op_inA (by have := hr.un; omega)).or (op_inDct false (by have := hr.un; omega))) (rule_in.or rule_T2) ha hb hm
theorem px_ninA (hr : Room j X.A) (ha : PX X k a f) (hb : PX X k b g) (hm : behindInMarks .NotIn b = false := by rfl) : PX X k (.Compare a [.NotIn] [b] pos) (op2 (pInA true) f g) :=
  px_cmp ((op_ninA (by have := hr.un; omega)).or (op_inDct true (by have := hr.un; omega))) (rule_nin.or rule_T2) ha hb hm
theorem ptx_inA (hr : Room j X.A) (ha : PX X k a f) (hb : PX X k b g) (hm : behindInMarks .In b = false := by rfl) : PTX X k (.Compare a [.In] [b] pos) (tst (op2 (pInA false) f g)) :=
  ptx_cmp ((op_inA (by have := hr.un; omega)).or (op_inDct false (by have := hr.un; omega))) (rule_in.or rule_T2) ha hb hm
theorem ptx_ninA (hr : Room j X.A) (ha : PX X k a f) (hb : PX X k b g) (hm : behindInMarks .NotIn b = false := by rfl) : PTX X k (.Compare a [.NotIn] [b] pos) (tst (op2 (pInA true) f g)) :=
  ptx_cmp ((op_ninA (by have := hr.un; omega)).or (op_inDct true (by have := hr.un; omega))) (rule_nin.or rule_T2) ha hb hm
def opSetA : D → D → D → Option D := orS opSetL opSetD
theorem set_all (hr : Room j X.A) : PSet X (fun x y z H Q => rSetL x y z H Q ∨ rSetD (mdOf X) x y z H Q) := PSet.or set_list (set_dct (by have := hr.un; omega))
theorem rule_setA {m : Md} : RuleS m (fun x y z H Q => rSetL x y z H Q ∨ rSetD m x y z H Q) opSetA := rule_setL.or rule_setD
end
end T3
end

section
set_option autoImplicit false
/-! THE TREE LAYER, part Q: short words for the generator. -/
namespace T3
open PySem PySem.Spec PyProof.Rows L2
theorem b_len : bootBuiltins "len" = some (.builtin "len") := by decide +kernel
theorem b_abs : bootBuiltins "abs" = some (.builtin "abs") := by decide +kernel
theorem b_repr : bootBuiltins "repr" = some (.builtin "repr") := by decide +kernel
theorem b_sum : bootBuiltins "sum" = some (.builtin "sum") := by decide +kernel
theorem b_min : bootBuiltins "min" = some (.builtin "min") := by decide +kernel
theorem b_max : bootBuiltins "max" = some (.builtin "max") := by decide +kernel
theorem b_any : bootBuiltins "any" = some (.builtin "any") := by decide +kernel
theorem b_all : bootBuiltins "all" = some (.builtin "all") := by decide +kernel
theorem b_int : bootBuiltins "int" = some (.type "int") := by decide +kernel
theorem b_list : bootBuiltins "list" = some (.type "list") := by decide +kernel
theorem b_tuple : bootBuiltins "tuple" = some (.type "tuple") := by decide +kernel
section
variable {X : Cx} {j : Nat}
theorem op_eqH (hr : Room j X.A) : OpR X (compareOp .Eq) (rEqD X.K) := op_eqD (by have := hr.un; omega)
theorem op_neH (hr : Room j X.A) : OpR X (compareOp .NotEq) (rNeD X.K) := op_neD (by have := hr.un; omega)
theorem op_inH (hr : Room j X.A) : OpR X (compareOp .In) (fun x y H Q => (rInD X.K x y H Q ∨ rInStr false x y H Q) ∨ rT2 (mdOf X) (pInD false) x y H Q) := (op_inA (by have := hr.un; omega)).or (op_inDct false (by have := hr.un; omega))
theorem op_ninH (hr : Room j X.A) : OpR X (compareOp .NotIn) (fun x y H Q => (rNotInD X.K x y H Q ∨ rInStr true x y H Q) ∨ rT2 (mdOf X) (pInD true) x y H Q) := (op_ninA (by have := hr.un; omega)).or (op_inDct true (by have := hr.un; omega))
theorem rule_inA {m : Md} : Rule2 m (fun x y H Q => (rInD m.K x y H Q ∨ rInStr false x y H Q) ∨ rT2 m (pInD false) x y H Q) (pInA false) := rule_in.or rule_T2
theorem rule_ninA {m : Md} : Rule2 m (fun x y H Q => (rNotInD m.K x y H Q ∨ rInStr true x y H Q) ∨ rT2 m (pInD true) x y H Q) (pInA true) := rule_nin.or rule_T2
end
section
variable {X : Cx} {k : Kx} {e : Expr} {es : List Expr} {g : AX} {p pos : Pos}
theorem px_len (hm : X.mg "len" = none) (ha : PAX X k (e :: es) g) (hg : Gl X "len" := by rfl) (he : starEach (e :: es) X.env = (false, eval e X.env) :: starEach es X.env := by rfl) (hpl : (backTo pos (starEach es X.env)).any (·.1) = false := by rfl) :
    PX X k (.Call (.Name "len" p) (e :: es) [] pos) (opN (one pLen) g) := px_callB call_len (rule_one rule_len) ha hg hm b_len (by decide) (by decide) he hpl
theorem px_abs (hm : X.mg "abs" = none) (ha : PAX X k (e :: es) g) (hg : Gl X "abs" := by rfl) (he : starEach (e :: es) X.env = (false, eval e X.env) :: starEach es X.env := by rfl) (hpl : (backTo pos (starEach es X.env)).any (·.1) = false := by rfl) :
    PX X k (.Call (.Name "abs" p) (e :: es) [] pos) (opN (one pAbs) g) := px_callB call_abs (rule_one rule_abs) ha hg hm b_abs (by decide) (by decide) he hpl
theorem px_repr (hm : X.mg "repr" = none) (ha : PAX X k (e :: es) g) (hg : Gl X "repr" := by rfl) (he : starEach (e :: es) X.env = (false, eval e X.env) :: starEach es X.env := by rfl) (hpl : (backTo pos (starEach es X.env)).any (·.1) = false := by rfl) :
    PX X k (.Call (.Name "repr" p) (e :: es) [] pos) (opN (one pReprI) g) := px_callB SkE.call_repr_int (rule_one rule_reprI) ha hg hm b_repr (by decide) (by decide) he hpl
theorem px_sum (hc : X.calm = true) (hm : X.mg "sum" = none) (ha : PAX X k (e :: es) g) (hg : Gl X "sum" := by rfl) (he : starEach (e :: es) X.env = (false, eval e X.env) :: starEach es X.env := by rfl) (hpl : (backTo pos (starEach es X.env)).any (·.1) = false := by rfl) :
    PX X k (.Call (.Name "sum" p) (e :: es) [] pos) (opN pSum g) := px_callB (cr_sumA hc) rule_sum ha hg hm b_sum (by decide) (by decide) he hpl
theorem px_min (hc : X.calm = true) (hm : X.mg "min" = none) (ha : PAX X k (e :: es) g) (hg : Gl X "min" := by rfl) (he : starEach (e :: es) X.env = (false, eval e X.env) :: starEach es X.env := by rfl) (hpl : (backTo pos (starEach es X.env)).any (·.1) = false := by rfl) :
    PX X k (.Call (.Name "min" p) (e :: es) [] pos) (opN pMin g) := px_callB (cr_minA hc) rule_min ha hg hm b_min (by decide) (by decide) he hpl
theorem px_max (hc : X.calm = true) (hm : X.mg "max" = none) (ha : PAX X k (e :: es) g) (hg : Gl X "max" := by rfl) (he : starEach (e :: es) X.env = (false, eval e X.env) :: starEach es X.env := by rfl) (hpl : (backTo pos (starEach es X.env)).any (·.1) = false := by rfl) :
    PX X k (.Call (.Name "max" p) (e :: es) [] pos) (opN pMax g) := px_callB (cr_maxA hc) rule_max ha hg hm b_max (by decide) (by decide) he hpl
theorem px_any (hc : X.calm = true) (hm : X.mg "any" = none) (ha : PAX X k (e :: es) g) (hg : Gl X "any" := by rfl) (he : starEach (e :: es) X.env = (false, eval e X.env) :: starEach es X.env := by rfl) (hpl : (backTo pos (starEach es X.env)).any (·.1) = false := by rfl) :
    PX X k (.Call (.Name "any" p) (e :: es) [] pos) (opN pAny g) := px_callB (cr_any hc) rule_any ha hg hm b_any (by decide) (by decide) he hpl
theorem px_all (hc : X.calm = true) (hm : X.mg "all" = none) (ha : PAX X k (e :: es) g) (hg : Gl X "all" := by rfl) (he : starEach (e :: es) X.env = (false, eval e X.env) :: starEach es X.env := by rfl) (hpl : (backTo pos (starEach es X.env)).any (·.1) = false := by rfl) :
    PX X k (.Call (.Name "all" p) (e :: es) [] pos) (opN pAll g) := px_callB (cr_all hc) rule_all ha hg hm b_all (by decide) (by decide) he hpl
theorem px_int' (hm : X.mg "int" = none) (ha : PAX X k (e :: es) g) (hg : Gl X "int" := by rfl) (he : starEach (e :: es) X.env = (false, eval e X.env) :: starEach es X.env := by rfl) (hpl : (backTo pos (starEach es X.env)).any (·.1) = false := by rfl) :
    PX X k (.Call (.Name "int" p) (e :: es) [] pos) (opN (one pToInt) g) := px_callTy call_int1 (rule_one rule_toInt) ha hg hm b_int (by decide) (by decide) he hpl
theorem px_list (hm : X.mg "list" = none) (ha : PAX X k (e :: es) g) (hg : Gl X "list" := by rfl) (he : starEach (e :: es) X.env = (false, eval e X.env) :: starEach es X.env := by rfl) (hpl : (backTo pos (starEach es X.env)).any (·.1) = false := by rfl) :
    PX X k (.Call (.Name "list" p) (e :: es) [] pos) (opN (one pList) g) := px_callTy call_list_of (rule_one rule_list) ha hg hm b_list (by decide) (by decide) he hpl
theorem px_tuple (hm : X.mg "tuple" = none) (ha : PAX X k (e :: es) g) (hg : Gl X "tuple" := by rfl) (he : starEach (e :: es) X.env = (false, eval e X.env) :: starEach es X.env := by rfl) (hpl : (backTo pos (starEach es X.env)).any (·.1) = false := by rfl) :
    PX X k (.Call (.Name "tuple" p) (e :: es) [] pos) (opN (one pTuple) g) := px_callTy call_tuple_of (rule_one rule_tuple) ha hg hm b_tuple (by decide) (by decide) he hpl
end
end T3
end

section
set_option autoImplicit false
/-! THE TREE LAYER, part R: a law's end. -/
namespace T3
open PySem PySem.Spec PyProof.Rows L2
theorem fzA_ints {m : Md} {F : Hp} : ∀ ns : List Int, FzA m F (ns.map V.int) (ns.map PyData.int)
  | [] => .nil
  | n :: ns => .cons (.int n) (fzA_ints ns)
/-- a law by its tree -/
theorem walk_t {l : PySem.W.OpenLaw} {n k : Nat} {q : Program} {loose : List Str} {XP : (Str → Option Value) → Heap → Prop} {YP : World → Heap → Prop} {d : DefRec} {x : Str} {fn : List T3.D → FR}
    (hn : l.most = some n) (hn2 : n ≤ sizeLine) (hdf : d.params.defaults = []) (hr : Room k callerA) (hlaw : ∀ ns : List Int, ns.length ≤ n → fn [.list (ns.map PyData.int)] = .ok (.bool true) none)
    (F : ∀ (w : World) (mg : Str → Option Value) (fa : Addr) (h : Heap), YP w h → h.Ns mainGlobals mg → mg d.name = some (.ref fa) →
      ∃ K : PySem.W.Frag, K.In h ∧ ∃ fd : FuncData, (∀ (s : Shared) (u : Value), BindsTo s fd ⟨[u], []⟩ [(x, u)]) ∧ ∀ base : Heap, FnOk l.prog w K mg base (L2.CX l.prog w) k fa fd [x] (spT ⟨l.prog, w, K⟩ false false ew0 fn)) :
    PySem.W.WalkO q loose XP YP l.row.toRowW d [] (fun f vs => PySem.call f vs) := by
  refine Att.attach_call hn hdf fun w s0 s1 mg mb fa o pm cd doc a vs ns G Y ho hd hcd hmg hobj hints hlen hg => ?_
  obtain ⟨K, KX, fd, hb, hF⟩ := F w mg fa _ Y G.T.g hmg
  refine law_call KX G.T.g G.T.b G.T.builtins G.T.nolimit hg hobj hints (Nat.le_trans hlen hn2) hr (fun base _ _ => hF base) hb (fun H hO hS => ?_) fun H e s' hc => ?_
  · refine ⟨H, [.list (ns.map PyData.int)], none, rfl, Same.refl _, .cons (.lst hS (fzA_ints ns)) .nil, ?_⟩
    rw [hlaw ns hlen]
    intro v F' H' _ _ _ _ _ hv
    have hv : Fz _ F' v (.bool true) := hv
    cases hv
    rfl
  · obtain ⟨_, _, _, _, _, _, _, _, _, _, _, _, hf⟩ := hc
    exact hf
theorem Callee.fa {P : Program} {w : World} {K : PySem.W.Frag} {mg : Str → Option Value} {base : Heap} {k : Nat} {x : Str} {ps : List Str} {io fresh : Bool} {ew : EW} {fn : List T3.D → FR} (C : Callee P w K mg base k x ps io fresh ew fn) : True := trivial
/-- a def as the head tells it -/
theorem defAt {K : PySem.W.Frag} {h : Heap} {mg : Str → Option Value} (X : K.In h) (G : h.Ns mainGlobals mg) {x : Str} {st : Stmt} {ps : List Str} {fd : FuncData} (F : FunD K x x (defArgs st) (defBody st) (defScope st) [] [] (He.fAd K (x, none)) fd) (c : (He.Fa.glo x).ok K = true) (b : Binds K fd ps []) :
    DefAt K mg x st ps := ⟨_, fd, F, He.glo_ok X G c, b⟩
end T3
end

section
set_option autoImplicit false
/-! THE TREE LAYER, part S: reckoning with the words. -/
namespace T3
open PySem PySem.Spec PyProof.Rows L2
theorem e_vName (i : Nat) (env : En) : T3.vName i env = (match env[i]? with
  | some (.fz d) => .ok (.fz d) env
  | some (.ow _) => .ok (.sl i) env
  | _ => .bad : R Rv) := rfl
theorem e_vC (d : D) (env : En) : T3.vC d env = (.ok (.fz d) env : R Rv) := rfl
theorem e_rd (f : EX) (env : En) : T3.rd f env = (match f env with
  | .ok (.ow d) e => .ok (.fz d) e
  | r => r : R Rv) := rfl
theorem e_fz (ms : List Nat) (f : EX) (env : En) : T3.fz ms f env = (fzR ms (f env) : R Rv) := rfl
theorem e_op1 (op : D → Option Out) (f : EX) (env : En) : T3.op1 op f env = (match rd f env with
  | .ok a e1 => match a.get e1 with
    | some x => appO (op x) e1
    | none => .bad
  | r => r : R Rv) := rfl
theorem e_op2 (op : D → D → Option Out) (f g : EX) (env : En) : T3.op2 op f g env = (match rd f env with
  | .ok a e1 => match rd g e1 with
    | .ok b e2 => match a.get e2, b.get e2 with
      | some x, some y => appO (op x y) e2
      | _, _ => .bad
    | r => r
  | r => r : R Rv) := rfl
theorem e_aNil  (env : En) : T3.aNil  env = (.ok [] env : R (List Rv)) := rfl
theorem e_aCons (f : EX) (g : AX) (env : En) : T3.aCons f g env = (match rd f env with
  | .ok a e1 => match g e1 with
    | .ok as e2 => .ok (a :: as) e2
    | .exc n i e => .exc n i e
    | .bad => .bad
  | .exc n i e => .exc n i e
  | .bad => .bad : R (List Rv)) := rfl
theorem e_aLast (f : EX) (env : En) : T3.aLast f env = (match f env with
  | .ok r e => .ok [r] e
  | .exc n i e => .exc n i e
  | .bad => .bad : R (List Rv)) := rfl
theorem e_opN (op : List D → Option Out) (g : AX) (env : En) : T3.opN op g env = (match g env with
  | .ok as e1 => match getA e1 as with
    | some xs => appO (op xs) e1
    | none => .bad
  | .exc n i e => .exc n i e
  | .bad => .bad : R Rv) := rfl
theorem e_dsp (op : List D → Option Out) (g : AX) (env : En) : T3.dsp op g env = (match g env with
  | .ok as e1 => match allFz as with
    | some xs => appO (op xs) e1
    | none => .bad
  | .exc n i e => .exc n i e
  | .bad => .bad : R Rv) := rfl
theorem e_opC (op op' : D → D → Option Out) (f g h : EX) (env : En) : T3.opC op op' f g h env = (match rd f env with
  | .ok a e1 => match rd g e1 with
    | .ok b e2 => match a.get e2, b.get e2 with
      | some x, some y => match op x y with
        | some (.fz (.bool true)) => match rd h e2 with
          | .ok c e3 => match b.get e3, c.get e3 with
            | some y, some z => appO (op' y z) e3
            | _, _ => .bad
          | r => r
        | some (.fz (.bool false)) => .ok (.fz (.bool false)) e2
        | _ => .bad
      | _, _ => .bad
    | r => r
  | r => r : R Rv) := rfl
theorem e_vOr (ms : List Nat) (f g : EX) (env : En) : T3.vOr ms f g env = (match fz ms f env with
  | .ok (.fz d) e => match truD d with
    | some true => .ok (.fz d) e
    | some false => g e
    | none => .bad
  | .exc n i e => .exc n i e
  | _ => .bad : R Rv) := rfl
theorem e_vAnd (ms : List Nat) (f g : EX) (env : En) : T3.vAnd ms f g env = (match fz ms f env with
  | .ok (.fz d) e => match truD d with
    | some true => g e
    | some false => .ok (.fz d) e
    | none => .bad
  | .exc n i e => .exc n i e
  | _ => .bad : R Rv) := rfl
theorem e_vNot (f : EX) (env : En) : T3.vNot f env = (match tru f env with
  | .ok b e => .ok (.fz (.bool (!b))) e
  | .exc n i e => .exc n i e
  | .bad => .bad : R Rv) := rfl
theorem e_vIf (t : BX) (f g : EX) (env : En) : T3.vIf t f g env = (match t env with
  | .ok true e => f e
  | .ok false e => g e
  | .exc n i e => .exc n i e
  | .bad => .bad : R Rv) := rfl
theorem e_tst (f : EX) (env : En) : T3.tst f env = (match f env with
  | .ok (.fz (.bool b)) e => .ok b e
  | .exc n i e => .exc n i e
  | _ => .bad : R Bool) := rfl
theorem e_tru (f : EX) (env : En) : T3.tru f env = (match rd f env with
  | .ok a e => match a.get e with
    | some d => match truD d with
      | some b => .ok b e
      | none => .bad
    | none => .bad
  | .exc n i e => .exc n i e
  | .bad => .bad : R Bool) := rfl
theorem e_tAnd (f g : BX) (env : En) : T3.tAnd f g env = (match f env with
  | .ok true e => g e
  | r => r : R Bool) := rfl
theorem e_tOr (f g : BX) (env : En) : T3.tOr f g env = (match f env with
  | .ok true e => .ok true e
  | .ok false e => g e
  | r => r : R Bool) := rfl
theorem e_tNot (f : BX) (env : En) : T3.tNot f env = (match f env with
  | .ok b e => .ok (!b) e
  | r => r : R Bool) := rfl
theorem e_opMt (op : D → List D → Option Out) (f : EX) (g : AX) (env : En) : T3.opMt op f g env = (match rd f env with
  | .ok (.fz (.str z)) e1 => match g e1 with
    | .ok as e2 => match getA e2 as with
      | some xs => appO (op (.str z) xs) e2
      | none => .bad
    | .exc n i e => .exc n i e
    | .bad => .bad
  | .exc n i e => .exc n i e
  | _ => .bad : R Rv) := rfl
theorem e_ptNone  (env : En) : T3.ptNone  env = (.ok none env : R (Option Int)) := rfl
theorem e_ptSome (f : EX) (env : En) : T3.ptSome f env = (match rd f env with
  | .ok (.fz (.int i)) e => .ok (some i) e
  | .exc n i e => .exc n i e
  | _ => .bad : R (Option Int)) := rfl
theorem e_opSl (f : EX) (l u : PartX) (env : En) : T3.opSl f l u env = (match rd f env with
  | .ok a e1 => match l e1 with
    | .ok lo e2 => match u e2 with
      | .ok hi e3 => match a.get e3 with
        | some d => appO (pSl d lo hi) e3
        | none => .bad
      | .exc n i e => .exc n i e
      | .bad => .bad
    | .exc n i e => .exc n i e
    | .bad => .bad
  | r => r : R Rv) := rfl
theorem e_opSt (f : EX) (l u : PartX) (t : PartX) (env : En) : T3.opSt f l u t env = (match rd f env with
  | .ok a e1 => match l e1 with
    | .ok lo e2 => match u e2 with
      | .ok hi e3 => match t e3 with
        | .ok (some st) e4 => match a.get e4 with
          | some d => appO (pStep d lo hi st) e4
          | none => .bad
        | .ok none _ => .bad
        | .exc n i e => .exc n i e
        | .bad => .bad
      | .exc n i e => .exc n i e
      | .bad => .bad
    | .exc n i e => .exc n i e
    | .bad => .bad
  | r => r : R Rv) := rfl
theorem e_vLc (vs : List Nat) (ms : List Nat) (it : IX) (g : GX) (t : BX) (f : EX) (env : En) : T3.vLc vs ms it g t f env = (match it env with
  | .ok ds e => match wipeE vs e with
    | some e1 => match lcl vs ms g t f ds e1 [] with
      | .ok acc e2 => .ok (.ow (.list acc)) (back e vs e2)
      | _ => .bad
    | none => .bad
  | .exc n i e => .exc n i e
  | .bad => .bad : R Rv) := rfl
theorem e_callF (fresh : Bool) (fn : List D → FR) (g : AX) (env : En) : T3.callF fresh fn g env = (match g env with
  | .ok rs e => match allFz rs with
    | some ds => match fn ds with
      | .ok d _ => .ok (if fresh = true then .ow d else .fz d) e
      | _ => .bad
    | none => .bad
  | .exc n i e => .exc n i e
  | .bad => .bad : R Rv) := rfl
theorem e_callIo (fresh : Bool) (fn : List D → FR) (g : AX) (env : En) : T3.callIo fresh fn g env = (match g env with
  | .ok rs e => match splitL rs with
    | some (ds, .sl j) => match e[j]? with
      | some (.ow d) => match fn (ds ++ [d]) with
        | .ok x (some d') => .ok (if fresh = true then .ow x else .fz x) (e.set j (.ow d'))
        | _ => .bad
      | _ => .bad
    | some (ds, .ow d) => match fn (ds ++ [d]) with
      | .ok x _ => .ok (if fresh = true then .ow x else .fz x) e
      | _ => .bad
    | _ => .bad
  | .exc n i e => .exc n i e
  | .bad => .bad : R Rv) := rfl
theorem e_mMut (T : String) (op : D → List D → Option (D × D)) (j : Nat) (g : AX) (env : En) : T3.mMut T op j g env = (match env[j]? with
  | some (.ow d0) => if isTy T d0 = true then match g env with
      | .ok rs e => match allFz rs, e[j]? with
        | some xs, some (.ow d) => match op d xs with
          | some (r, d') => .ok (.fz r) (e.set j (.ow d'))
          | none => .bad
        | _, _ => .bad
      | .exc n i e => .exc n i e
      | .bad => .bad
    else .bad
  | _ => .bad : R Rv) := rfl
theorem e_vDict0  (env : En) : T3.vDict0  env = (.ok (.ow (.dict [])) env : R Rv) := rfl
theorem e_vDict (g : DX) (env : En) : T3.vDict g env = (match g env with
  | .ok ds e => if (ds.all fun q => (leafOf q.1).isSome) = true ∧ ds.length ≤ 15 then .ok (.ow (.dict (dputs [] ds))) e else .bad
  | .exc n i e => .exc n i e
  | .bad => .bad : R Rv) := rfl
theorem e_dCons (ms : List Nat) (fk fv : EX) (g : DX) (env : En) : T3.dCons ms fk fv g env = (match fz ms fk env with
  | .ok (.fz kd) e1 => match fz ms fv e1 with
    | .ok (.fz vd) e2 => match g e2 with
      | .ok ds e3 => .ok ((kd, vd) :: ds) e3
      | .exc n i e => .exc n i e
      | .bad => .bad
    | .exc n i e => .exc n i e
    | _ => .bad
  | .exc n i e => .exc n i e
  | _ => .bad : R (List (T3.D × T3.D))) := rfl
theorem e_dNil  (env : En) : T3.dNil  env = (.ok [] env : R (List (T3.D × T3.D))) := rfl
theorem e_sNil  (env : En) : T3.sNil  env = (.nx env : O) := rfl
theorem e_sSeq (f g : SX) (env : En) : T3.sSeq f g env = (match f env with
  | .nx e => g e
  | r => r : O) := rfl
theorem e_sIf (t : BX) (f g : SX) (env : En) : T3.sIf t f g env = (match t env with
  | .ok true e => f e
  | .ok false e => g e
  | .exc n i e => .exc n i e
  | .bad => .bad : O) := rfl
theorem e_sRet (f : EX) (env : En) : T3.sRet f env = (match f env with
  | .ok r e => .rt r e
  | .exc n i e => .exc n i e
  | .bad => .bad : O) := rfl
theorem e_sRetN  (env : En) : T3.sRetN  env = (.rt (.fz .none) env : O) := rfl
theorem e_sExpr (f : EX) (env : En) : T3.sExpr f env = (match f env with
  | .ok _ e => .nx e
  | .exc n i e => .exc n i e
  | .bad => .bad : O) := rfl
theorem e_sBk  (env : En) : T3.sBk  env = (.bk env : O) := rfl
theorem e_sCt  (env : En) : T3.sCt  env = (.ct env : O) := rfl
theorem e_sSet (ms : List Nat) (i : Nat) (f : EX) (env : En) : T3.sSet ms i f env = (match slF ms f env with
  | .ok (.fz d) e => if i ∈ ms then .bad else .nx (e.set i (.fz d))
  | .ok (.ow d) e => if i ∈ ms then .bad else .nx (e.set i (.ow d))
  | .exc n i e => .exc n i e
  | _ => .bad : O) := rfl
theorem e_slF (ms : List Nat) (f : EX) (env : En) : T3.slF ms f env = (match f env with
  | .ok (.sl i) e => fzR ms (.ok (.sl i) e)
  | r => r : R Rv) := rfl
theorem e_sAsg (ms : List Nat) (f : EX) (g : GX) (env : En) : T3.sAsg ms f g env = (match fz ms f env with
  | .ok (.fz d) e => match g d e with
    | some e1 => .nx e1
    | none => .bad
  | .exc n i e => .exc n i e
  | _ => .bad : O) := rfl
theorem e_sPut (ms : List Nat) (op : D → D → D → Option D) (j : Nat) (fi fe : EX) (env : En) : T3.sPut ms op j fi fe env = (match fz ms fe env with
  | .ok (.fz v) e1 => match e1[j]? with
    | some (.ow _) => match fz ms fi e1 with
      | .ok (.fz i) e2 => match e2[j]? with
        | some (.ow d) => match op d i v with
          | some d' => .nx (e2.set j (.ow d'))
          | none => .bad
        | _ => .bad
      | .exc n i e => .exc n i e
      | _ => .bad
    | _ => .bad
  | .exc n i e => .exc n i e
  | _ => .bad : O) := rfl
theorem e_sFor (f : IX) (g : GX) (body : SX) (env : En) : T3.sFor f g body env = (match f env with
  | .ok ds e => fl g body ds e
  | .exc n i e => .exc n i e
  | .bad => .bad : O) := rfl
theorem e_iSeq (ms : List Nat) (f : EX) (env : En) : T3.iSeq ms f env = (match fz ms f env with
  | .ok (.fz d) e => match itemsOf d with
    | some ds => .ok ds e
    | none => .bad
  | .exc n i e => .exc n i e
  | _ => .bad : R (List T3.D)) := rfl
theorem e_iRange1 (f : EX) (env : En) : T3.iRange1 f env = (match rd f env with
  | .ok (.fz (.int j)) e => if fit62 j = true then .ok (rangeD 0 j) e else .bad
  | .exc n i e => .exc n i e
  | _ => .bad : R (List T3.D)) := rfl
theorem e_iRange2 (f g : EX) (env : En) : T3.iRange2 f g env = (match rd f env with
  | .ok (.fz (.int i)) e => match rd g e with
    | .ok (.fz (.int j)) e2 => if fit62 i = true ∧ fit62 j = true then .ok (rangeD i j) e2 else .bad
    | .exc n i e => .exc n i e
    | _ => .bad
  | .exc n i e => .exc n i e
  | _ => .bad : R (List T3.D)) := rfl
theorem e_iEnum (ms : List Nat) (f : EX) (env : En) : T3.iEnum ms f env = (match fz ms f env with
  | .ok (.fz d) e => match d with
    | .list ds => .ok (num 0 ds) e
    | .str x => .ok (num 0 (signs x)) e
    | _ => .bad
  | .exc n i e => .exc n i e
  | _ => .bad : R (List T3.D)) := rfl
theorem e_tstYes  (env : En) : T3.tstYes  env = (.ok true env : R Bool) := rfl
theorem e_gN0 (i : Nat) (d : T3.D) (e : En) : gN [] i d e = some (e.set i (.fz d)) := by
  unfold gN; rw [if_neg List.not_mem_nil]
theorem e_gN (ms : List Nat) (i : Nat) (d : T3.D) (e : En) : gN ms i d e = if i ∈ ms then none else some (e.set i (.fz d)) := rfl
theorem e_gT (n : Nat) (gs : GsX) (ds : List T3.D) (e : En) : gT n gs (.tuple ds) e = if ds.length = n then gs ds e else none := rfl
theorem e_gsNil (e : En) : gsNil [] e = some e := rfl
theorem e_gsCons (g : GX) (gs : GsX) (d : T3.D) (ds : List T3.D) (e : En) : gsCons g gs (d :: ds) e = match g d e with
  | some e1 => gs ds e1
  | none => none := rfl
theorem for_ok {f : IX} {g : GX} {body : SX} {env e : En} {ds : List T3.D} {o : O} (h : f env = .ok ds e) (h2 : fl g body ds e = o) : sFor f g body env = o := by
  unfold sFor
  rw [h]
  exact h2
theorem lc_ok {vs ms : List Nat} {it : IX} {g : GX} {t : BX} {f : EX} {env e e1 e2 : En} {ds acc : List T3.D} (h : it env = .ok ds e) (h1 : wipeE vs e = some e1) (h2 : lcl vs ms g t f ds e1 [] = .ok acc e2) : vLc vs ms it g t f env = .ok (.ow (.list acc)) (back e vs e2) := by
  unfold vLc
  rw [h]
  dsimp only
  rw [h1]
  dsimp only
  rw [h2]
theorem e_flN (g : GX) (body : SX) (e : En) : fl g body [] e = .nx e := rfl
theorem e_flC (g : GX) (body : SX) (d : T3.D) (ds : List T3.D) (env : En) : fl g body (d :: ds) env = match g d env with
    | none => .bad
    | some e => match body e with
      | .nx e2 => fl g body ds e2
      | .ct e2 => fl g body ds e2
      | .bk e2 => .nx e2
      | r => r := rfl
theorem e_eqI (n : Bool) (i j : Int) : pEq n (.int i) (.int j) = some (.fz (.bool (n ^^ decide (i = j)))) := rfl
theorem e_eqS (n : Bool) (i j : Str) (hi : SeqAt.shaped (.str i) = true) (hj : SeqAt.shaped (.str j) = true) : pEq n (.str i) (.str j) = some (.fz (.bool (n ^^ decide (i = j)))) := by
  unfold pEq
  rw [if_pos ⟨hi, hj⟩]
  unfold oB
  congr 4
end T3
end

section
set_option autoImplicit false
/-! THE TREE LAYER, part T: reckoning with the operations. -/
namespace T3
open PySem PySem.Spec PyProof.Rows L2
abbrev oI (i : Int) : Option Out := some (.fz (.int i))
theorem o_addI (i j : Int) : pAdd (.int i) (.int j) = some (.fz (.int (i + j))) := rfl
theorem o_subI (i j : Int) : pSub (.int i) (.int j) = some (.fz (.int (i - j))) := rfl
theorem o_mulI (i j : Int) : pMul (.int i) (.int j) = if cmulB i j = true then some (.fz (.int (i * j))) else none := by
  unfold pMul pInt pMulI
  dsimp only
  by_cases h : cmulB i j = true
  · rw [if_pos h, if_pos h]
  · rw [if_neg h, if_neg h]
theorem o_modI (i j : Int) : pMod (.int i) (.int j) = if 0 < j then some (.fz (.int (i % j))) else none := by
  unfold pMod pInt pModI
  dsimp only
  by_cases h : 0 < j
  · rw [if_pos h, if_pos h]
  · rw [if_neg h, if_neg h]
theorem o_divI (i j : Int) : pDiv (.int i) (.int j) = if 0 < j ∧ j < 1073741824 then some (.fz (.int (i / j))) else none := by
  unfold pDiv pInt pDivI
  dsimp only
  by_cases h : 0 < j ∧ j < 1073741824
  · rw [if_pos h, if_pos h]
  · rw [if_neg h, if_neg h]
theorem o_neg (i : Int) : pNeg (.int i) = some (.fz (.int (-i))) := rfl
theorem o_ltI (i j : Int) : pLt (.int i) (.int j) = some (.fz (.bool (decide (i < j)))) := rfl
theorem o_leI (i j : Int) : pLe (.int i) (.int j) = some (.fz (.bool (decide (i ≤ j)))) := rfl
theorem o_gtI (i j : Int) : pGt (.int i) (.int j) = some (.fz (.bool (decide (j < i)))) := rfl
theorem o_geI (i j : Int) : pGe (.int i) (.int j) = some (.fz (.bool (decide (j ≤ i)))) := rfl
theorem o_isN (n : Bool) (d : T3.D) : pIs n d .none = some (.fz (.bool (n ^^ isNone d))) := rfl
theorem o_nN : isNone .none = true := rfl
theorem o_nB (b : Bool) : isNone (.bool b) = false := rfl
theorem o_nI (b : Int) : isNone (.int b) = false := rfl
theorem o_nS (b : Str) : isNone (.str b) = false := rfl
theorem o_nT (b : List T3.D) : isNone (.tuple b) = false := rfl
theorem o_nL (b : List T3.D) : isNone (.list b) = false := rfl
theorem o_nD (b : List (T3.D × T3.D)) : isNone (.dict b) = false := rfl
theorem o_isB (n a b : Bool) : pIs n (.bool a) (.bool b) = some (.fz (.bool (n ^^ decide (a = b)))) := rfl
theorem o_itL (ds : List T3.D) : itemsOf (.list ds) = some ds := rfl
theorem o_itT (ds : List T3.D) : itemsOf (.tuple ds) = some ds := rfl
theorem o_listL (ds : List T3.D) : pList (.list ds) = some (.nl ds) := rfl
theorem o_listT (ds : List T3.D) : pList (.tuple ds) = some (.nl ds) := rfl
theorem o_tupL (ds : List T3.D) : pTuple (.list ds) = some (.nt ds) := rfl
theorem o_tupT (ds : List T3.D) : pTuple (.tuple ds) = some (.fz (.tuple ds)) := rfl
theorem o_lenL (ds : List T3.D) : pLen (.list ds) = some (.fz (.int ds.length)) := rfl
theorem o_lenT (ds : List T3.D) : pLen (.tuple ds) = some (.fz (.int ds.length)) := rfl
theorem o_lenS (z : Str) : pLen (.str z) = if z.length ≤ line then some (.fz (.int z.length)) else none := rfl
theorem o_abs (i : Int) : pAbs (.int i) = some (.fz (.int (if i < 0 then -i else i))) := rfl
theorem o_toInt (i : Int) : pToInt (.int i) = some (.fz (.int i)) := rfl
theorem o_app (ds : List T3.D) (x : T3.D) : opAppend (.list ds) [x] = if ds.length < line then some (.none, .list (ds ++ [x])) else none := rfl
theorem ixN_nat (n k : Nat) : L2.ixN n (k : Int) = if k < n then some k else none := by
  unfold L2.ixN
  rw [if_pos (Int.natCast_nonneg k)]
  by_cases h : k < n
  · rw [if_pos h, if_pos (by omega)]; rfl
  · rw [if_neg h, if_neg (by omega)]
theorem atI_nat {α : Type} (xs : List α) (k : Nat) : L2.atI xs (k : Int) = xs[k]? := by
  unfold L2.atI
  rw [ixN_nat]
  by_cases h : k < xs.length
  · rw [if_pos h]; rfl
  · rw [if_neg h]
    show none = _
    rw [List.getElem?_eq_none (by omega)]
theorem o_ixTn (ds : List T3.D) (k : Nat) : pIxA (.tuple ds) (.int (k : Int)) = ds[k]?.map Out.fz := by
  unfold pIxA orE pIx pIxD
  dsimp only
  rw [atI_nat]
  cases ds[k]? <;> rfl
theorem o_ixLn (ds : List T3.D) (k : Nat) : pIxA (.list ds) (.int (k : Int)) = ds[k]?.map Out.fz := by
  unfold pIxA orE pIx pIxD
  dsimp only
  rw [atI_nat]
  cases ds[k]? <;> rfl
theorem o_ixDct (kvs : List (T3.D × T3.D)) (d : T3.D) : pIxA (.dict kvs) d = match isK kvs d with
    | some nk => match dget kvs nk with
      | some v => some (.fz v)
      | none => none
    | none => none := rfl
theorem o_inDct (n : Bool) (kvs : List (T3.D × T3.D)) (d : T3.D) : pInA n d (.dict kvs) = match isK kvs d with
    | some nk => some (.fz (.bool (n ^^ (dget kvs nk).isSome)))
    | none => none := rfl
theorem o_setLn (ds : List T3.D) (k : Nat) (v : T3.D) : opSetA (.list ds) (.int (k : Int)) v = if k < ds.length then some (.list (ds.set k v)) else none := by
  unfold opSetA orS opSetL opSetD
  dsimp only
  rw [ixN_nat]
  by_cases h : k < ds.length
  · rw [if_pos h, if_pos h]
  · rw [if_neg h, if_neg h]
theorem o_setDct (kvs : List (T3.D × T3.D)) (i v : T3.D) : opSetA (.dict kvs) i v = match isK kvs i with
    | some nk => if kvs.length < line then some (.dict (dput kvs nk i v)) else none
    | none => none := rfl
theorem intsOf_map (ns : List Int) : intsOf (ns.map PyData.int) = some ns := by
  induction ns with
  | nil => rfl
  | cons n ns ih => rw [List.map_cons]; unfold intsOf; rw [ih]
theorem o_sumL (ns : List Int) : pSum [.list (ns.map PyData.int)] = some (.fz (.int ns.sum)) := by unfold pSum; dsimp only; rw [intsOf_map]
theorem o_sumT (ns : List Int) : pSum [.tuple (ns.map PyData.int)] = some (.fz (.int ns.sum)) := by unfold pSum; dsimp only; rw [intsOf_map]

theorem o_ln0 : (0 ≤ line) = True := eq_true (by decide)
theorem o_ln1 : (1 ≤ line) = True := eq_true (by decide)
theorem o_ln2 : (2 ≤ line) = True := eq_true (by decide)
theorem o_ln3 : (3 ≤ line) = True := eq_true (by decide)
theorem o_ln4 : (4 ≤ line) = True := eq_true (by decide)
theorem o_ln5 : (5 ≤ line) = True := eq_true (by decide)
theorem o_ln6 : (6 ≤ line) = True := eq_true (by decide)
theorem o_ln7 : (7 ≤ line) = True := eq_true (by decide)
theorem o_ln8 : (8 ≤ line) = True := eq_true (by decide)
theorem o_ln9 : (9 ≤ line) = True := eq_true (by decide)
theorem o_ln10 : (10 ≤ line) = True := eq_true (by decide)
theorem o_ln11 : (11 ≤ line) = True := eq_true (by decide)
theorem o_ixT0 (ds : List T3.D) : pIxA (.tuple ds) (.int 0) = ds[0]?.map Out.fz := o_ixTn ds 0
theorem o_ixL0 (ds : List T3.D) : pIxA (.list ds) (.int 0) = ds[0]?.map Out.fz := o_ixLn ds 0
theorem o_setL0 (ds : List T3.D) (v : T3.D) : opSetA (.list ds) (.int 0) v = if 0 < ds.length then some (.list (ds.set 0 v)) else none := o_setLn ds 0 v
theorem o_ixT1 (ds : List T3.D) : pIxA (.tuple ds) (.int 1) = ds[1]?.map Out.fz := o_ixTn ds 1
theorem o_ixL1 (ds : List T3.D) : pIxA (.list ds) (.int 1) = ds[1]?.map Out.fz := o_ixLn ds 1
theorem o_setL1 (ds : List T3.D) (v : T3.D) : opSetA (.list ds) (.int 1) v = if 1 < ds.length then some (.list (ds.set 1 v)) else none := o_setLn ds 1 v
theorem o_ixT2 (ds : List T3.D) : pIxA (.tuple ds) (.int 2) = ds[2]?.map Out.fz := o_ixTn ds 2
theorem o_ixL2 (ds : List T3.D) : pIxA (.list ds) (.int 2) = ds[2]?.map Out.fz := o_ixLn ds 2
theorem o_setL2 (ds : List T3.D) (v : T3.D) : opSetA (.list ds) (.int 2) v = if 2 < ds.length then some (.list (ds.set 2 v)) else none := o_setLn ds 2 v
theorem o_ixT3 (ds : List T3.D) : pIxA (.tuple ds) (.int 3) = ds[3]?.map Out.fz := o_ixTn ds 3
theorem o_ixL3 (ds : List T3.D) : pIxA (.list ds) (.int 3) = ds[3]?.map Out.fz := o_ixLn ds 3
theorem o_setL3 (ds : List T3.D) (v : T3.D) : opSetA (.list ds) (.int 3) v = if 3 < ds.length then some (.list (ds.set 3 v)) else none := o_setLn ds 3 v
theorem o_ixT4 (ds : List T3.D) : pIxA (.tuple ds) (.int 4) = ds[4]?.map Out.fz := o_ixTn ds 4
theorem o_ixL4 (ds : List T3.D) : pIxA (.list ds) (.int 4) = ds[4]?.map Out.fz := o_ixLn ds 4
theorem o_setL4 (ds : List T3.D) (v : T3.D) : opSetA (.list ds) (.int 4) v = if 4 < ds.length then some (.list (ds.set 4 v)) else none := o_setLn ds 4 v
theorem o_ixT5 (ds : List T3.D) : pIxA (.tuple ds) (.int 5) = ds[5]?.map Out.fz := o_ixTn ds 5
theorem o_ixL5 (ds : List T3.D) : pIxA (.list ds) (.int 5) = ds[5]?.map Out.fz := o_ixLn ds 5
theorem o_setL5 (ds : List T3.D) (v : T3.D) : opSetA (.list ds) (.int 5) v = if 5 < ds.length then some (.list (ds.set 5 v)) else none := o_setLn ds 5 v
theorem o_ixT6 (ds : List T3.D) : pIxA (.tuple ds) (.int 6) = ds[6]?.map Out.fz := o_ixTn ds 6
theorem o_ixL6 (ds : List T3.D) : pIxA (.list ds) (.int 6) = ds[6]?.map Out.fz := o_ixLn ds 6
theorem o_setL6 (ds : List T3.D) (v : T3.D) : opSetA (.list ds) (.int 6) v = if 6 < ds.length then some (.list (ds.set 6 v)) else none := o_setLn ds 6 v
theorem o_ixT7 (ds : List T3.D) : pIxA (.tuple ds) (.int 7) = ds[7]?.map Out.fz := o_ixTn ds 7
theorem o_ixL7 (ds : List T3.D) : pIxA (.list ds) (.int 7) = ds[7]?.map Out.fz := o_ixLn ds 7
theorem o_setL7 (ds : List T3.D) (v : T3.D) : opSetA (.list ds) (.int 7) v = if 7 < ds.length then some (.list (ds.set 7 v)) else none := o_setLn ds 7 v
theorem o_ixT8 (ds : List T3.D) : pIxA (.tuple ds) (.int 8) = ds[8]?.map Out.fz := o_ixTn ds 8
theorem o_ixL8 (ds : List T3.D) : pIxA (.list ds) (.int 8) = ds[8]?.map Out.fz := o_ixLn ds 8
theorem o_setL8 (ds : List T3.D) (v : T3.D) : opSetA (.list ds) (.int 8) v = if 8 < ds.length then some (.list (ds.set 8 v)) else none := o_setLn ds 8 v
theorem o_ixT9 (ds : List T3.D) : pIxA (.tuple ds) (.int 9) = ds[9]?.map Out.fz := o_ixTn ds 9
theorem o_ixL9 (ds : List T3.D) : pIxA (.list ds) (.int 9) = ds[9]?.map Out.fz := o_ixLn ds 9
theorem o_setL9 (ds : List T3.D) (v : T3.D) : opSetA (.list ds) (.int 9) v = if 9 < ds.length then some (.list (ds.set 9 v)) else none := o_setLn ds 9 v
end T3
end

section
set_option autoImplicit false
/-! THE TREE LAYER, part U: the draws that all laws make. -/
namespace T3
open PySem PySem.Spec PyProof.Rows L2
theorem lt_line {n : Nat} (h : n < 1000000) : n < line := Nat.lt_trans h (by decide)
theorem le_line' {n : Nat} (h : n < 1000000) : n ≤ line := Nat.le_of_lt (lt_line h)
theorem o_truB (b : Bool) : truD (.bool b) = some b := rfl
/-! ### _law_mix -/
def drD (ds : List Nat) : T3.D := .list (ds.map fun (n : Nat) => PyData.int (n : Int))
def mixN (ds : List Nat) (k many : Nat) : Nat :=
  let cell := if ds.length = 0 then 0 else ds.getD (k % ds.length) 0
  if k < ds.length then cell % many else ((cell * 7919 + k * 104729) / 3) % many
theorem mixN_lt (ds : List Nat) (k : Nat) {many : Nat} (h : 0 < many) : mixN ds k many < many := by
  unfold mixN
  dsimp only
  split
  · exact Nat.mod_lt _ h
  · exact Nat.mod_lt _ h
theorem cmul_r (i j : Int) (h : 0 ≤ j) (h2 : j < 1000000) : cmulB i j = true := by
  unfold cmulB
  rw [Bool.or_eq_true]
  refine .inr ?_
  rw [decide_eq_true (by omega), decide_eq_true (by omega)]
  rfl
theorem fin_mix (cell k many : Nat) : ((cell : Int) * 7919 + (k : Int) * 104729) / 3 % (many : Int) = ((((cell * 7919 + k * 104729) / 3) % many : Nat) : Int) := by
  simp only [Int.natCast_emod, Int.natCast_ediv, Int.natCast_add, Int.natCast_mul]
  rfl
def mixB (a b c : Int) : SX := sSeq (sSet [] 3 (vC (.int 0)))
    (sSeq (sIf (tst (op2 pGt (opN (one pLen) (aLast (vName 0))) (vC (.int 0)))) (sSet [] 3 (op2 pIxA (vName 0) (op2 pMod (opN (one pToInt) (aLast (vName 1))) (opN (one pLen) (aLast (vName 0)))))) (sNil))
    (sSeq (sIf (tst (op2 pLt (vName 1) (opN (one pLen) (aLast (vName 0))))) (sRet (op2 pMod (opN (one pToInt) (aLast (vName 3))) (vName 2))) (sNil))
    (sRet (op2 pMod (opN (one pToInt) (aLast (op2 pDiv (opN (one pToInt) (aLast (op2 pAdd (op2 pMul (vName 3) (vC (.int a))) (op2 pMul (vName 1) (vC (.int b)))))) (vC (.int c))))) (vName 2)))))
theorem mix_body {a b c k many len cell r : Int} {dd : T3.D} (hl : pLen dd = some (.fz (.int len))) (hm : 0 < many) (hc : cmulB cell a = true ∧ cmulB k b = true ∧ 0 < c ∧ c < 1073741824)
    (h0 : (0 < len ∧ pIxA dd (.int (k % len)) = some (.fz (.int cell))) ∨ (¬ 0 < len ∧ cell = 0)) (hr : r = if k < len then cell % many else (cell * a + k * b) / c % many) :
    ∃ e, mixB a b c [.fz dd, .fz (.int k), .fz (.int many), .non] = .rt (.fz (.int r)) e := by
  obtain ⟨c1, c2, c3, c4⟩ := hc
  unfold mixB
  rcases h0 with ⟨h0, hi⟩ | ⟨h0, rfl⟩
  · refine ⟨[.fz dd, .fz (.int k), .fz (.int many), .fz (.int cell)], ?_⟩
    by_cases hk : k < len
    · rw [if_pos hk] at hr
      simp only [e_vName, e_vC, e_rd, e_fz, e_op1, e_op2, e_aNil, e_aCons, e_aLast, e_opN, e_dsp, e_opC, e_vOr, e_vAnd, e_vNot, e_vIf, e_tst, e_tru, e_tAnd, e_tOr, e_tNot, e_opMt, e_ptNone, e_ptSome, e_opSl, e_opSt, e_callF, e_callIo, e_mMut, e_vDict0, e_vDict, e_dCons, e_dNil, e_sNil, e_sSeq, e_sIf, e_sRet, e_sRetN, e_sExpr, e_sBk, e_sCt, e_sSet, e_slF, e_sAsg, e_sPut, e_iSeq, e_iRange1, e_iRange2, e_iEnum, e_tstYes, e_gN0, e_gT, e_gsNil, e_gsCons, e_eqI, fzR, Rv.get, getA, allFz, appO, Out.rv, List.getElem?_cons_zero, List.getElem?_cons_succ, List.set_cons_zero, List.set_cons_succ, Nat.reduceAdd, List.length_cons, List.length_nil, if_true, if_false, one, decide_true, decide_false, Bool.xor_false, Bool.false_xor, Bool.true_xor, Bool.not_true, Bool.not_false, oTup, oLst, splitL, List.cons_append, List.nil_append, e_gN, and_self, o_addI, o_subI, o_mulI, o_modI, o_neg, o_ltI, o_leI, o_gtI, o_geI, o_isN, o_nN, o_nB, o_nI, o_nS, o_nT, o_nL, o_nD, o_isB, o_itL, o_itT, o_listL, o_listT, o_tupL, o_tupT, o_lenL, o_lenT, o_lenS, o_abs, o_toInt, o_app, o_ixTn, o_ixLn, o_ixDct, o_inDct, o_setLn, o_setDct, o_sumL, o_sumT, o_ln0, o_ln1, o_ln2, o_ln3, o_ln4, o_ln5, o_ln6, o_ln7, o_ln8, o_ln9, o_ln10, o_ln11, o_ixT0, o_ixL0, o_setL0, o_ixT1, o_ixL1, o_setL1, o_ixT2, o_ixL2, o_setL2, o_ixT3, o_ixL3, o_setL3, o_ixT4, o_ixL4, o_setL4, o_ixT5, o_ixL5, o_setL5, o_ixT6, o_ixL6, o_setL6, o_ixT7, o_ixL7, o_setL7, o_ixT8, o_ixL8, o_setL8, o_ixT9, o_ixL9, o_setL9, o_divI, Option.map_some, Option.map_none, List.not_mem_nil, reduceIte, Bool.false_eq_true, List.mem_singleton, Nat.reduceLT, Nat.reduceLeDiff, Int.reduceLT, Int.reduceLE, Nat.reduceEqDiff, Int.reduceNeg, hl, h0, hi, hk, hm, hr]
    · rw [if_neg hk] at hr
      simp only [e_vName, e_vC, e_rd, e_fz, e_op1, e_op2, e_aNil, e_aCons, e_aLast, e_opN, e_dsp, e_opC, e_vOr, e_vAnd, e_vNot, e_vIf, e_tst, e_tru, e_tAnd, e_tOr, e_tNot, e_opMt, e_ptNone, e_ptSome, e_opSl, e_opSt, e_callF, e_callIo, e_mMut, e_vDict0, e_vDict, e_dCons, e_dNil, e_sNil, e_sSeq, e_sIf, e_sRet, e_sRetN, e_sExpr, e_sBk, e_sCt, e_sSet, e_slF, e_sAsg, e_sPut, e_iSeq, e_iRange1, e_iRange2, e_iEnum, e_tstYes, e_gN0, e_gT, e_gsNil, e_gsCons, e_eqI, fzR, Rv.get, getA, allFz, appO, Out.rv, List.getElem?_cons_zero, List.getElem?_cons_succ, List.set_cons_zero, List.set_cons_succ, Nat.reduceAdd, List.length_cons, List.length_nil, if_true, if_false, one, decide_true, decide_false, Bool.xor_false, Bool.false_xor, Bool.true_xor, Bool.not_true, Bool.not_false, oTup, oLst, splitL, List.cons_append, List.nil_append, e_gN, and_self, o_addI, o_subI, o_mulI, o_modI, o_neg, o_ltI, o_leI, o_gtI, o_geI, o_isN, o_nN, o_nB, o_nI, o_nS, o_nT, o_nL, o_nD, o_isB, o_itL, o_itT, o_listL, o_listT, o_tupL, o_tupT, o_lenL, o_lenT, o_lenS, o_abs, o_toInt, o_app, o_ixTn, o_ixLn, o_ixDct, o_inDct, o_setLn, o_setDct, o_sumL, o_sumT, o_ln0, o_ln1, o_ln2, o_ln3, o_ln4, o_ln5, o_ln6, o_ln7, o_ln8, o_ln9, o_ln10, o_ln11, o_ixT0, o_ixL0, o_setL0, o_ixT1, o_ixL1, o_setL1, o_ixT2, o_ixL2, o_setL2, o_ixT3, o_ixL3, o_setL3, o_ixT4, o_ixL4, o_setL4, o_ixT5, o_ixL5, o_setL5, o_ixT6, o_ixL6, o_setL6, o_ixT7, o_ixL7, o_setL7, o_ixT8, o_ixL8, o_setL8, o_ixT9, o_ixL9, o_setL9, o_divI, Option.map_some, Option.map_none, List.not_mem_nil, reduceIte, Bool.false_eq_true, List.mem_singleton, Nat.reduceLT, Nat.reduceLeDiff, Int.reduceLT, Int.reduceLE, Nat.reduceEqDiff, Int.reduceNeg, hl, h0, hi, hk, hm, hr, c1, c2, c3, c4]
  · refine ⟨[.fz dd, .fz (.int k), .fz (.int many), .fz (.int 0)], ?_⟩
    by_cases hk : k < len
    · rw [if_pos hk] at hr
      simp only [e_vName, e_vC, e_rd, e_fz, e_op1, e_op2, e_aNil, e_aCons, e_aLast, e_opN, e_dsp, e_opC, e_vOr, e_vAnd, e_vNot, e_vIf, e_tst, e_tru, e_tAnd, e_tOr, e_tNot, e_opMt, e_ptNone, e_ptSome, e_opSl, e_opSt, e_callF, e_callIo, e_mMut, e_vDict0, e_vDict, e_dCons, e_dNil, e_sNil, e_sSeq, e_sIf, e_sRet, e_sRetN, e_sExpr, e_sBk, e_sCt, e_sSet, e_slF, e_sAsg, e_sPut, e_iSeq, e_iRange1, e_iRange2, e_iEnum, e_tstYes, e_gN0, e_gT, e_gsNil, e_gsCons, e_eqI, fzR, Rv.get, getA, allFz, appO, Out.rv, List.getElem?_cons_zero, List.getElem?_cons_succ, List.set_cons_zero, List.set_cons_succ, Nat.reduceAdd, List.length_cons, List.length_nil, if_true, if_false, one, decide_true, decide_false, Bool.xor_false, Bool.false_xor, Bool.true_xor, Bool.not_true, Bool.not_false, oTup, oLst, splitL, List.cons_append, List.nil_append, e_gN, and_self, o_addI, o_subI, o_mulI, o_modI, o_neg, o_ltI, o_leI, o_gtI, o_geI, o_isN, o_nN, o_nB, o_nI, o_nS, o_nT, o_nL, o_nD, o_isB, o_itL, o_itT, o_listL, o_listT, o_tupL, o_tupT, o_lenL, o_lenT, o_lenS, o_abs, o_toInt, o_app, o_ixTn, o_ixLn, o_ixDct, o_inDct, o_setLn, o_setDct, o_sumL, o_sumT, o_ln0, o_ln1, o_ln2, o_ln3, o_ln4, o_ln5, o_ln6, o_ln7, o_ln8, o_ln9, o_ln10, o_ln11, o_ixT0, o_ixL0, o_setL0, o_ixT1, o_ixL1, o_setL1, o_ixT2, o_ixL2, o_setL2, o_ixT3, o_ixL3, o_setL3, o_ixT4, o_ixL4, o_setL4, o_ixT5, o_ixL5, o_setL5, o_ixT6, o_ixL6, o_setL6, o_ixT7, o_ixL7, o_setL7, o_ixT8, o_ixL8, o_setL8, o_ixT9, o_ixL9, o_setL9, o_divI, Option.map_some, Option.map_none, List.not_mem_nil, reduceIte, Bool.false_eq_true, List.mem_singleton, Nat.reduceLT, Nat.reduceLeDiff, Int.reduceLT, Int.reduceLE, Nat.reduceEqDiff, Int.reduceNeg, hl, h0, hk, hm, hr]
    · rw [if_neg hk] at hr
      simp only [e_vName, e_vC, e_rd, e_fz, e_op1, e_op2, e_aNil, e_aCons, e_aLast, e_opN, e_dsp, e_opC, e_vOr, e_vAnd, e_vNot, e_vIf, e_tst, e_tru, e_tAnd, e_tOr, e_tNot, e_opMt, e_ptNone, e_ptSome, e_opSl, e_opSt, e_callF, e_callIo, e_mMut, e_vDict0, e_vDict, e_dCons, e_dNil, e_sNil, e_sSeq, e_sIf, e_sRet, e_sRetN, e_sExpr, e_sBk, e_sCt, e_sSet, e_slF, e_sAsg, e_sPut, e_iSeq, e_iRange1, e_iRange2, e_iEnum, e_tstYes, e_gN0, e_gT, e_gsNil, e_gsCons, e_eqI, fzR, Rv.get, getA, allFz, appO, Out.rv, List.getElem?_cons_zero, List.getElem?_cons_succ, List.set_cons_zero, List.set_cons_succ, Nat.reduceAdd, List.length_cons, List.length_nil, if_true, if_false, one, decide_true, decide_false, Bool.xor_false, Bool.false_xor, Bool.true_xor, Bool.not_true, Bool.not_false, oTup, oLst, splitL, List.cons_append, List.nil_append, e_gN, and_self, o_addI, o_subI, o_mulI, o_modI, o_neg, o_ltI, o_leI, o_gtI, o_geI, o_isN, o_nN, o_nB, o_nI, o_nS, o_nT, o_nL, o_nD, o_isB, o_itL, o_itT, o_listL, o_listT, o_tupL, o_tupT, o_lenL, o_lenT, o_lenS, o_abs, o_toInt, o_app, o_ixTn, o_ixLn, o_ixDct, o_inDct, o_setLn, o_setDct, o_sumL, o_sumT, o_ln0, o_ln1, o_ln2, o_ln3, o_ln4, o_ln5, o_ln6, o_ln7, o_ln8, o_ln9, o_ln10, o_ln11, o_ixT0, o_ixL0, o_setL0, o_ixT1, o_ixL1, o_setL1, o_ixT2, o_ixL2, o_setL2, o_ixT3, o_ixL3, o_setL3, o_ixT4, o_ixL4, o_setL4, o_ixT5, o_ixL5, o_setL5, o_ixT6, o_ixL6, o_setL6, o_ixT7, o_ixL7, o_setL7, o_ixT8, o_ixL8, o_setL8, o_ixT9, o_ixL9, o_setL9, o_divI, Option.map_some, Option.map_none, List.not_mem_nil, reduceIte, Bool.false_eq_true, List.mem_singleton, Nat.reduceLT, Nat.reduceLeDiff, Int.reduceLT, Int.reduceLE, Nat.reduceEqDiff, Int.reduceNeg, hl, h0, hk, hm, hr, c1, c2, c3, c4]
theorem mix_ok (ds : List Nat) (k many : Nat) (h : 0 < many) : mkFn 3 4 false false (mixB 7919 104729 3) [drD ds, .int (k : Int), .int (many : Int)] = .ok (.int (mixN ds k many : Nat)) none := by
  have hl : pLen (drD ds) = some (.fz (.int (ds.length : Int))) := by
    have e : pLen (drD ds) = some (.fz (.int ((ds.map fun (n : Nat) => PyData.int (n : Int)).length : Nat))) := rfl
    rw [e, List.length_map]
  have hc : cmulB ((if ds.length = 0 then 0 else ds.getD (k % ds.length) 0 : Nat) : Int) 7919 = true ∧ cmulB (k : Int) 104729 = true ∧ (0 : Int) < 3 ∧ (3 : Int) < 1073741824 := ⟨cmul_r _ _ (by decide) (by decide), cmul_r _ _ (by decide) (by decide), by decide, by decide⟩
  have h0 : ((0 : Int) < (ds.length : Int) ∧ pIxA (drD ds) (.int ((k : Int) % (ds.length : Int))) = some (.fz (.int ((if ds.length = 0 then 0 else ds.getD (k % ds.length) 0 : Nat) : Int)))) ∨ (¬ (0 : Int) < (ds.length : Int) ∧ ((if ds.length = 0 then 0 else ds.getD (k % ds.length) 0 : Nat) : Int) = 0) := by
    by_cases c : ds.length = 0
    · exact .inr ⟨by omega, by rw [if_pos c]; rfl⟩
    · refine .inl ⟨by omega, ?_⟩
      have kl : k % ds.length < ds.length := Nat.mod_lt _ (by omega)
      rw [if_neg c, show (k : Int) % (ds.length : Int) = ((k % ds.length : Nat) : Int) from by omega]
      unfold drD
      rw [o_ixLn, List.getElem?_map, List.getElem?_eq_getElem kl, List.getD_eq_getElem?_getD, List.getElem?_eq_getElem kl]
      rfl
  have hr : ((mixN ds k many : Nat) : Int) = if (k : Int) < (ds.length : Int) then ((if ds.length = 0 then 0 else ds.getD (k % ds.length) 0 : Nat) : Int) % (many : Int) else (((if ds.length = 0 then 0 else ds.getD (k % ds.length) 0 : Nat) : Int) * 7919 + (k : Int) * 104729) / 3 % (many : Int) := by
    unfold mixN
    dsimp only
    generalize (if ds.length = 0 then 0 else ds.getD (k % ds.length) 0) = cell
    by_cases c : k < ds.length
    · rw [if_pos c, if_pos (by omega)]
      exact Int.natCast_emod _ _
    · rw [if_neg c, if_neg (by omega), fin_mix]
  obtain ⟨e, t⟩ := mix_body hl (show (0 : Int) < (many : Int) by omega) hc h0 hr
  unfold mkFn
  rw [if_pos ⟨rfl, fun h => by cases h⟩]
  exact congrArg (T3.finish false false 2) t
/-! ### loops -/
theorem e_lclN (vs ms : List Nat) (g : GX) (t : BX) (f : EX) (e : En) (acc : List T3.D) : lcl vs ms g t f [] e acc = .ok acc e := rfl
theorem e_lclC (vs ms : List Nat) (g : GX) (t : BX) (f : EX) (d : T3.D) (ds : List T3.D) (e : En) (acc : List T3.D) : lcl vs ms g t f (d :: ds) e acc = match g d e with
    | none => .bad
    | some e1 => match t e1 with
      | .ok true e2 => match T3.fz ms f e2 with
        | .ok (.fz y) e3 => if acc.length < line then match wipeE vs e3 with
            | some e4 => lcl vs ms g t f ds e4 (acc ++ [y])
            | none => .bad
          else .bad
        | _ => .bad
      | .ok false e2 => match wipeE vs e2 with
        | some e4 => lcl vs ms g t f ds e4 acc
        | none => .bad
      | _ => .bad := rfl
theorem fl_inv {g : GX} {body : SX} (P : En → Prop) : ∀ (ds : List T3.D) (e : En), P e → (∀ d ∈ ds, ∀ e, P e → ∃ e1 e2, g d e = some e1 ∧ body e1 = .nx e2 ∧ P e2) → ∃ e', fl g body ds e = .nx e' ∧ P e'
  | [], e, h, _ => ⟨e, rfl, h⟩
  | d :: ds, e, h, hs => by
    obtain ⟨e1, e2, h1, h2, h3⟩ := hs d List.mem_cons_self e h
    obtain ⟨e', h4, h5⟩ := fl_inv P ds e2 h3 fun d hd => hs d (List.mem_cons_of_mem _ hd)
    refine ⟨e', ?_, h5⟩
    rw [e_flC, h1]
    dsimp only
    rw [h2]
    exact h4
theorem fl_pre {α : Type} {enc : α → T3.D} {g : GX} {body : SX} (P : List α → En → Prop) : ∀ (post pre : List α) (e : En), P pre e → (∀ pre' a post', pre ++ post = pre' ++ a :: post' → ∀ e, P pre' e → ∃ e1 e2, g (enc a) e = some e1 ∧ body e1 = .nx e2 ∧ P (pre' ++ [a]) e2) → ∃ e', fl g body (post.map enc) e = .nx e' ∧ P (pre ++ post) e'
  | [], pre, e, h, _ => ⟨e, rfl, by rwa [List.append_nil]⟩
  | a :: post, pre, e, h, hs => by
    obtain ⟨e1, e2, h1, h2, h3⟩ := hs pre a post rfl e h
    obtain ⟨e', h4, h5⟩ := fl_pre P post (pre ++ [a]) e2 h3 fun pre' b post' q => hs pre' b post' (by rw [← q, List.append_assoc]; rfl)
    refine ⟨e', ?_, by rwa [List.append_assoc] at h5⟩
    rw [List.map_cons, e_flC, h1]
    dsimp only
    rw [h2]
    exact h4
/-- all passes run through -/
theorem fl_all {α : Type} {enc : α → T3.D} {g : GX} {body : SX} (P : List α → En → Prop) (l : List α) (e : En) (h : P [] e) (hs : ∀ pre a post, l = pre ++ a :: post → ∀ e, P pre e → ∃ e1 e2, g (enc a) e = some e1 ∧ body e1 = .nx e2 ∧ P (pre ++ [a]) e2) : ∃ e', fl g body (l.map enc) e = .nx e' ∧ P l e' :=
  fl_pre P l [] e h hs
/-- a comprehension over typed items, the slots the same ahead of each -/
theorem lcl_map {α : Type} {enc : α → T3.D} {vs ms : List Nat} {g : GX} {t : BX} {f : EX} {e0 : En} (p : α → Bool) (y : α → T3.D) : ∀ (l : List α) (acc : List T3.D), acc.length + l.length ≤ line →
    (∀ a ∈ l, ∃ e1 e2 e3, g (enc a) e0 = some e1 ∧ t e1 = .ok (p a) e2 ∧ (p a = true → T3.fz ms f e2 = .ok (.fz (y a)) e3) ∧ (p a = false → e3 = e2) ∧ wipeE vs e3 = some e0) →
    lcl vs ms g t f (l.map enc) e0 acc = .ok (acc ++ (l.filter p).map y) e0
  | [], acc, _, _ => by rw [List.map_nil, e_lclN]; simp
  | a :: l, acc, hl, hs => by
    rw [List.length_cons] at hl
    obtain ⟨e1, e2, e3, h1, h2, h3, h4, h5⟩ := hs a List.mem_cons_self
    have ih := fun acc h => lcl_map (enc := enc) (vs := vs) (ms := ms) (g := g) (t := t) (f := f) (e0 := e0) p y l acc h fun b hb => hs b (List.mem_cons_of_mem _ hb)
    rw [List.map_cons, e_lclC, h1]
    dsimp only
    rw [h2]
    cases hp : p a with
    | true =>
      dsimp only
      rw [h3 hp]
      dsimp only
      rw [if_pos (by omega), h5]
      dsimp only
      rw [ih _ (by rw [List.length_append, List.length_singleton]; omega), List.filter_cons_of_pos hp, List.map_cons, List.append_assoc]
      rfl
    | false =>
      dsimp only
      rw [h4 hp] at h5
      rw [h5]
      dsimp only
      rw [ih _ (by omega), List.filter_cons_of_neg (by rw [hp]; exact Bool.false_ne_true)]
/-! ### _law_draws -/
def drT (c : Int) : SX := sIf (tst (op2 pGt (vName 3) (vC (.int 0)))) (sSeq (sExpr (mMut "list" opAppend 1 (aCons (fz [] (op2 pMod (opN (one pToInt) (aLast (vName 3))) (vC (.int c)))) (aNil))))
    (sSet [] 3 (op2 pDiv (vName 3) (vC (.int c))))) (sNil)
theorem drD_app (ds : List Nat) (n : Nat) (h : ds.length < 1000000) : opAppend (drD ds) [.int (n : Int)] = some (.none, drD (ds ++ [n])) := by
  unfold drD
  rw [o_app, List.length_map, if_pos (lt_line h), List.map_append]
  rfl
theorem ty_drD (ds : List Nat) : isTy "list" (drD ds) = true := rfl
theorem drT_one {c : Nat} (hc : 0 < c) (hc2 : c < 1073741824) (sc k t st : Slot) (ds : List Nat) (rest : Nat) (hl : ds.length < 1000000) :
    ∃ (ds' : List Nat) (rest' : Nat), drT c [sc, .ow (drD ds), k, .fz (.int (rest : Int)), t, st] = .nx [sc, .ow (drD ds'), k, .fz (.int (rest' : Int)), t, st] ∧ ds'.length ≤ ds.length + 1 := by
  have h1 : (0 : Int) < (c : Int) := by omega
  have h2 : (c : Int) < 1073741824 := by omega
  have m : (rest : Int) % (c : Int) = ((rest % c : Nat) : Int) := (Int.natCast_emod _ _).symm
  have d : (rest : Int) / (c : Int) = ((rest / c : Nat) : Int) := (Int.natCast_ediv _ _).symm
  have a := drD_app ds (rest % c) hl
  by_cases h : (0 : Int) < (rest : Int)
  · refine ⟨ds ++ [rest % c], rest / c, ?_, by simp⟩
    unfold drT
    simp only [e_vName, e_vC, e_rd, e_fz, e_op1, e_op2, e_aNil, e_aCons, e_aLast, e_opN, e_dsp, e_opC, e_vOr, e_vAnd, e_vNot, e_vIf, e_tst, e_tru, e_tAnd, e_tOr, e_tNot, e_opMt, e_ptNone, e_ptSome, e_opSl, e_opSt, e_callF, e_callIo, e_mMut, e_vDict0, e_vDict, e_dCons, e_dNil, e_sNil, e_sSeq, e_sIf, e_sRet, e_sRetN, e_sExpr, e_sBk, e_sCt, e_sSet, e_slF, e_sAsg, e_sPut, e_iSeq, e_iRange1, e_iRange2, e_iEnum, e_tstYes, e_gN0, e_gT, e_gsNil, e_gsCons, e_eqI, fzR, Rv.get, getA, allFz, appO, Out.rv, List.getElem?_cons_zero, List.getElem?_cons_succ, List.set_cons_zero, List.set_cons_succ, Nat.reduceAdd, List.length_cons, List.length_nil, if_true, if_false, one, decide_true, decide_false, Bool.xor_false, Bool.false_xor, Bool.true_xor, Bool.not_true, Bool.not_false, oTup, oLst, splitL, List.cons_append, List.nil_append, e_gN, and_self, o_addI, o_subI, o_mulI, o_modI, o_neg, o_ltI, o_leI, o_gtI, o_geI, o_isN, o_nN, o_nB, o_nI, o_nS, o_nT, o_nL, o_nD, o_isB, o_itL, o_itT, o_listL, o_listT, o_tupL, o_tupT, o_lenL, o_lenT, o_lenS, o_abs, o_toInt, o_app, o_ixTn, o_ixLn, o_ixDct, o_inDct, o_setLn, o_setDct, o_sumL, o_sumT, o_ln0, o_ln1, o_ln2, o_ln3, o_ln4, o_ln5, o_ln6, o_ln7, o_ln8, o_ln9, o_ln10, o_ln11, o_ixT0, o_ixL0, o_setL0, o_ixT1, o_ixL1, o_setL1, o_ixT2, o_ixL2, o_setL2, o_ixT3, o_ixL3, o_setL3, o_ixT4, o_ixL4, o_setL4, o_ixT5, o_ixL5, o_setL5, o_ixT6, o_ixL6, o_setL6, o_ixT7, o_ixL7, o_setL7, o_ixT8, o_ixL8, o_setL8, o_ixT9, o_ixL9, o_setL9, o_divI, Option.map_some, Option.map_none, List.not_mem_nil, reduceIte, Bool.false_eq_true, List.mem_singleton, Nat.reduceLT, Nat.reduceLeDiff, Int.reduceLT, Int.reduceLE, Nat.reduceEqDiff, Int.reduceNeg, h, h1, h2, m, d, ty_drD, a]
  · refine ⟨ds, rest, ?_, by omega⟩
    unfold drT
    simp only [e_vName, e_vC, e_rd, e_fz, e_op1, e_op2, e_aNil, e_aCons, e_aLast, e_opN, e_dsp, e_opC, e_vOr, e_vAnd, e_vNot, e_vIf, e_tst, e_tru, e_tAnd, e_tOr, e_tNot, e_opMt, e_ptNone, e_ptSome, e_opSl, e_opSt, e_callF, e_callIo, e_mMut, e_vDict0, e_vDict, e_dCons, e_dNil, e_sNil, e_sSeq, e_sIf, e_sRet, e_sRetN, e_sExpr, e_sBk, e_sCt, e_sSet, e_slF, e_sAsg, e_sPut, e_iSeq, e_iRange1, e_iRange2, e_iEnum, e_tstYes, e_gN0, e_gT, e_gsNil, e_gsCons, e_eqI, fzR, Rv.get, getA, allFz, appO, Out.rv, List.getElem?_cons_zero, List.getElem?_cons_succ, List.set_cons_zero, List.set_cons_succ, Nat.reduceAdd, List.length_cons, List.length_nil, if_true, if_false, one, decide_true, decide_false, Bool.xor_false, Bool.false_xor, Bool.true_xor, Bool.not_true, Bool.not_false, oTup, oLst, splitL, List.cons_append, List.nil_append, e_gN, and_self, o_addI, o_subI, o_mulI, o_modI, o_neg, o_ltI, o_leI, o_gtI, o_geI, o_isN, o_nN, o_nB, o_nI, o_nS, o_nT, o_nL, o_nD, o_isB, o_itL, o_itT, o_listL, o_listT, o_tupL, o_tupT, o_lenL, o_lenT, o_lenS, o_abs, o_toInt, o_app, o_ixTn, o_ixLn, o_ixDct, o_inDct, o_setLn, o_setDct, o_sumL, o_sumT, o_ln0, o_ln1, o_ln2, o_ln3, o_ln4, o_ln5, o_ln6, o_ln7, o_ln8, o_ln9, o_ln10, o_ln11, o_ixT0, o_ixL0, o_setL0, o_ixT1, o_ixL1, o_setL1, o_ixT2, o_ixL2, o_setL2, o_ixT3, o_ixL3, o_setL3, o_ixT4, o_ixL4, o_setL4, o_ixT5, o_ixL5, o_setL5, o_ixT6, o_ixL6, o_setL6, o_ixT7, o_ixL7, o_setL7, o_ixT8, o_ixL8, o_setL8, o_ixT9, o_ixL9, o_setL9, o_divI, Option.map_some, Option.map_none, List.not_mem_nil, reduceIte, Bool.false_eq_true, List.mem_singleton, Nat.reduceLT, Nat.reduceLeDiff, Int.reduceLT, Int.reduceLE, Nat.reduceEqDiff, Int.reduceNeg, h]
/-- slots of the draws -/
def DrE (sc : Slot) (n : Nat) (e : En) : Prop := ∃ (ds : List Nat) (k : Slot) (rest : Nat) (t st : Slot), e = [sc, .ow (drD ds), k, .fz (.int (rest : Int)), t, st] ∧ ds.length ≤ n
theorem range_enc (n : Nat) : rangeD 0 (n : Int) = (List.range n).map fun j => PyData.int ((j : Nat) : Int) := by
  unfold rangeD
  have : ((n : Int) - 0).toNat = n := by omega
  rw [this]
  refine List.map_congr_left fun j _ => ?_
  rw [Int.zero_add]
theorem drL_ok {c : Nat} (hc : 0 < c) (hc2 : c < 1073741824) (sc : Slot) (n : Nat) (hn : n + 60 < 1000000) (e : En) (he : DrE sc n e) : ∃ e', fl (gN [] 4) (drT c) (rangeD 0 60) e = .nx e' ∧ DrE sc (n + 60) e' := by
  have hr : rangeD 0 60 = (List.range 60).map fun j => PyData.int ((j : Nat) : Int) := range_enc 60
  rw [hr]
  obtain ⟨e', h1, h2⟩ := fl_all (enc := fun (j : Nat) => PyData.int (j : Int)) (g := gN [] 4) (body := drT c) (fun pre e => DrE sc (n + pre.length) e) (List.range 60) e he fun pre a post hp e hP => by
    have hpl : pre.length < 60 := by
      have := congrArg List.length hp
      rw [List.length_range, List.length_append, List.length_cons] at this
      omega
    obtain ⟨ds, k, rest, t, st, rfl, hl⟩ := hP
    obtain ⟨ds', rest', h, hl'⟩ := drT_one hc hc2 sc k (.fz (.int (a : Int))) st ds rest (by omega)
    refine ⟨_, _, rfl, h, ds', k, rest', .fz (.int (a : Int)), st, rfl, ?_⟩
    rw [List.length_append, List.length_singleton]
    omega
  refine ⟨e', h1, ?_⟩
  rw [List.length_range] at h2
  exact h2
def drS (a b c d f g h : Int) : SX := sSeq (sSet [] 5 (op2 pMod (opN (one pToInt) (aLast (op2 pAdd (op2 pMul (vName 3) (vC (.int a))) (op2 pMul (op2 pAdd (vName 2) (vC (.int 1))) (vC (.int b)))))) (vC (.int c))))
    (sSeq (sSet [] 5 (op2 pMod (opN (one pToInt) (aLast (op2 pAdd (op2 pAdd (op2 pMul (vName 5) (vC (.int d))) (op2 pMul (vC (.int 11)) (vName 2))) (vC (.int 5))))) (vC (.int f))))
    (sSeq (sExpr (mMut "list" opAppend 1 (aCons (fz [] (op2 pMod (opN (one pToInt) (aLast (vName 5))) (vC (.int g)))) (aNil))))
    (sExpr (mMut "list" opAppend 1 (aCons (fz [] (op2 pMod (opN (one pToInt) (aLast (op2 pDiv (vName 5) (vC (.int g))))) (vC (.int h)))) (aNil))))))
theorem drS_one {a b c d f g h : Int} {k rest s1 s2 : Int} {n1 n2 : Nat} (ha : cmulB rest a = true) (hb : cmulB (k + 1) b = true) (hc : 0 < c) (hd : cmulB s1 d = true) (h11 : cmulB 11 k = true) (hf : 0 < f) (hg : 0 < g) (hg2 : g < 1073741824) (hh : 0 < h)
    (e1 : (rest * a + (k + 1) * b) % c = s1) (e2 : (s1 * d + 11 * k + 5) % f = s2) (e3 : s2 % g = (n1 : Int)) (e4 : s2 / g % h = (n2 : Int)) (sc t st : Slot) (ds : List Nat) (hl : ds.length < 999999) :
    drS a b c d f g h [sc, .ow (drD ds), .fz (.int k), .fz (.int rest), t, st] = .nx [sc, .ow (drD (ds ++ [n1] ++ [n2])), .fz (.int k), .fz (.int rest), t, .fz (.int s2)] := by
  have a1 := drD_app ds n1 (by omega)
  have a2 := drD_app (ds ++ [n1]) n2 (by rw [List.length_append, List.length_singleton]; omega)
  unfold drS
  simp only [e_vName, e_vC, e_rd, e_fz, e_op1, e_op2, e_aNil, e_aCons, e_aLast, e_opN, e_dsp, e_opC, e_vOr, e_vAnd, e_vNot, e_vIf, e_tst, e_tru, e_tAnd, e_tOr, e_tNot, e_opMt, e_ptNone, e_ptSome, e_opSl, e_opSt, e_callF, e_callIo, e_mMut, e_vDict0, e_vDict, e_dCons, e_dNil, e_sNil, e_sSeq, e_sIf, e_sRet, e_sRetN, e_sExpr, e_sBk, e_sCt, e_sSet, e_slF, e_sAsg, e_sPut, e_iSeq, e_iRange1, e_iRange2, e_iEnum, e_tstYes, e_gN0, e_gT, e_gsNil, e_gsCons, e_eqI, fzR, Rv.get, getA, allFz, appO, Out.rv, List.getElem?_cons_zero, List.getElem?_cons_succ, List.set_cons_zero, List.set_cons_succ, Nat.reduceAdd, List.length_cons, List.length_nil, if_true, if_false, one, decide_true, decide_false, Bool.xor_false, Bool.false_xor, Bool.true_xor, Bool.not_true, Bool.not_false, oTup, oLst, splitL, List.cons_append, List.nil_append, e_gN, and_self, o_addI, o_subI, o_mulI, o_modI, o_neg, o_ltI, o_leI, o_gtI, o_geI, o_isN, o_nN, o_nB, o_nI, o_nS, o_nT, o_nL, o_nD, o_isB, o_itL, o_itT, o_listL, o_listT, o_tupL, o_tupT, o_lenL, o_lenT, o_lenS, o_abs, o_toInt, o_app, o_ixTn, o_ixLn, o_ixDct, o_inDct, o_setLn, o_setDct, o_sumL, o_sumT, o_ln0, o_ln1, o_ln2, o_ln3, o_ln4, o_ln5, o_ln6, o_ln7, o_ln8, o_ln9, o_ln10, o_ln11, o_ixT0, o_ixL0, o_setL0, o_ixT1, o_ixL1, o_setL1, o_ixT2, o_ixL2, o_setL2, o_ixT3, o_ixL3, o_setL3, o_ixT4, o_ixL4, o_setL4, o_ixT5, o_ixL5, o_setL5, o_ixT6, o_ixL6, o_setL6, o_ixT7, o_ixL7, o_setL7, o_ixT8, o_ixL8, o_setL8, o_ixT9, o_ixL9, o_setL9, o_divI, Option.map_some, Option.map_none, List.not_mem_nil, reduceIte, Bool.false_eq_true, List.mem_singleton, Nat.reduceLT, Nat.reduceLeDiff, Int.reduceLT, Int.reduceLE, Nat.reduceEqDiff, Int.reduceNeg, ha, hb, hc, hd, h11, hf, hg, hg2, hh, e1, e2, e3, e4, ty_drD, a1, a2]
theorem nat_mod (x c : Int) (hc : 0 < c) : x % c = ((x % c).toNat : Int) := by
  have := Int.emod_nonneg x (show c ≠ 0 by omega)
  omega
def drR (lp es : SX) : SX := sSeq (sSet [] 3 (opN (one pAbs) (aLast (op2 pIxA (vName 0) (vName 2))))) (sIf (tst (op2 pGe (vName 3) (op2 pPow (vC (.int 10)) (vC (.int 18))))) lp es)
theorem drR_one {lp es : SX} {sd : T3.D} {k : Nat} {i big : Int} {e : En} (hi : pIxA sd (.int (k : Int)) = some (.fz (.int i))) (hp : pPow (.int 10) (.int 18) = some (.fz (.int big))) (d r t st : Slot)
    (h1 : big ≤ (if i < 0 then -i else i) → lp [.fz sd, d, .fz (.int (k : Int)), .fz (.int (if i < 0 then -i else i)), t, st] = .nx e) (h2 : ¬ big ≤ (if i < 0 then -i else i) → es [.fz sd, d, .fz (.int (k : Int)), .fz (.int (if i < 0 then -i else i)), t, st] = .nx e) :
    drR lp es [.fz sd, d, .fz (.int (k : Int)), r, t, st] = .nx e := by
  unfold drR
  generalize hj : (if i < 0 then -i else i) = j at *
  by_cases h : big ≤ j
  · simp only [e_vName, e_vC, e_rd, e_fz, e_op1, e_op2, e_aNil, e_aCons, e_aLast, e_opN, e_dsp, e_opC, e_vOr, e_vAnd, e_vNot, e_vIf, e_tst, e_tru, e_tAnd, e_tOr, e_tNot, e_opMt, e_ptNone, e_ptSome, e_opSl, e_opSt, e_callF, e_callIo, e_mMut, e_vDict0, e_vDict, e_dCons, e_dNil, e_sNil, e_sSeq, e_sIf, e_sRet, e_sRetN, e_sExpr, e_sBk, e_sCt, e_sSet, e_slF, e_sAsg, e_sPut, e_iSeq, e_iRange1, e_iRange2, e_iEnum, e_tstYes, e_gN0, e_gT, e_gsNil, e_gsCons, e_eqI, fzR, Rv.get, getA, allFz, appO, Out.rv, List.getElem?_cons_zero, List.getElem?_cons_succ, List.set_cons_zero, List.set_cons_succ, Nat.reduceAdd, List.length_cons, List.length_nil, if_true, if_false, one, decide_true, decide_false, Bool.xor_false, Bool.false_xor, Bool.true_xor, Bool.not_true, Bool.not_false, oTup, oLst, splitL, List.cons_append, List.nil_append, e_gN, and_self, o_addI, o_subI, o_mulI, o_modI, o_neg, o_ltI, o_leI, o_gtI, o_geI, o_isN, o_nN, o_nB, o_nI, o_nS, o_nT, o_nL, o_nD, o_isB, o_itL, o_itT, o_listL, o_listT, o_tupL, o_tupT, o_lenL, o_lenT, o_lenS, o_abs, o_toInt, o_app, o_ixTn, o_ixLn, o_ixDct, o_inDct, o_setLn, o_setDct, o_sumL, o_sumT, o_ln0, o_ln1, o_ln2, o_ln3, o_ln4, o_ln5, o_ln6, o_ln7, o_ln8, o_ln9, o_ln10, o_ln11, o_ixT0, o_ixL0, o_setL0, o_ixT1, o_ixL1, o_setL1, o_ixT2, o_ixL2, o_setL2, o_ixT3, o_ixL3, o_setL3, o_ixT4, o_ixL4, o_setL4, o_ixT5, o_ixL5, o_setL5, o_ixT6, o_ixL6, o_setL6, o_ixT7, o_ixL7, o_setL7, o_ixT8, o_ixL8, o_setL8, o_ixT9, o_ixL9, o_setL9, o_divI, Option.map_some, Option.map_none, List.not_mem_nil, reduceIte, Bool.false_eq_true, List.mem_singleton, Nat.reduceLT, Nat.reduceLeDiff, Int.reduceLT, Int.reduceLE, Nat.reduceEqDiff, Int.reduceNeg, hi, hj, hp, h, h1 h]
  · simp only [e_vName, e_vC, e_rd, e_fz, e_op1, e_op2, e_aNil, e_aCons, e_aLast, e_opN, e_dsp, e_opC, e_vOr, e_vAnd, e_vNot, e_vIf, e_tst, e_tru, e_tAnd, e_tOr, e_tNot, e_opMt, e_ptNone, e_ptSome, e_opSl, e_opSt, e_callF, e_callIo, e_mMut, e_vDict0, e_vDict, e_dCons, e_dNil, e_sNil, e_sSeq, e_sIf, e_sRet, e_sRetN, e_sExpr, e_sBk, e_sCt, e_sSet, e_slF, e_sAsg, e_sPut, e_iSeq, e_iRange1, e_iRange2, e_iEnum, e_tstYes, e_gN0, e_gT, e_gsNil, e_gsCons, e_eqI, fzR, Rv.get, getA, allFz, appO, Out.rv, List.getElem?_cons_zero, List.getElem?_cons_succ, List.set_cons_zero, List.set_cons_succ, Nat.reduceAdd, List.length_cons, List.length_nil, if_true, if_false, one, decide_true, decide_false, Bool.xor_false, Bool.false_xor, Bool.true_xor, Bool.not_true, Bool.not_false, oTup, oLst, splitL, List.cons_append, List.nil_append, e_gN, and_self, o_addI, o_subI, o_mulI, o_modI, o_neg, o_ltI, o_leI, o_gtI, o_geI, o_isN, o_nN, o_nB, o_nI, o_nS, o_nT, o_nL, o_nD, o_isB, o_itL, o_itT, o_listL, o_listT, o_tupL, o_tupT, o_lenL, o_lenT, o_lenS, o_abs, o_toInt, o_app, o_ixTn, o_ixLn, o_ixDct, o_inDct, o_setLn, o_setDct, o_sumL, o_sumT, o_ln0, o_ln1, o_ln2, o_ln3, o_ln4, o_ln5, o_ln6, o_ln7, o_ln8, o_ln9, o_ln10, o_ln11, o_ixT0, o_ixL0, o_setL0, o_ixT1, o_ixL1, o_setL1, o_ixT2, o_ixL2, o_setL2, o_ixT3, o_ixL3, o_setL3, o_ixT4, o_ixL4, o_setL4, o_ixT5, o_ixL5, o_setL5, o_ixT6, o_ixL6, o_setL6, o_ixT7, o_ixL7, o_setL7, o_ixT8, o_ixL8, o_setL8, o_ixT9, o_ixL9, o_setL9, o_divI, Option.map_some, Option.map_none, List.not_mem_nil, reduceIte, Bool.false_eq_true, List.mem_singleton, Nat.reduceLT, Nat.reduceLeDiff, Int.reduceLT, Int.reduceLE, Nat.reduceEqDiff, Int.reduceNeg, hi, hj, hp, h, h2 h]
def drawsB (a b c d f g h : Int) : SX := sSeq (sSet [] 1 (dsp oLst (aNil)))
    (sSeq (sFor (iRange1 (opN pMin (aCons (vC (.int 63)) (aLast (opN (one pLen) (aLast (vName 0))))))) (gN [] 2) (drR (sFor (iRange1 (vC (.int 60))) (gN [] 4) (drT g)) (drS a b c d f g h)))
    (sRet (vName 1)))
theorem pow18 : pPow (.int 10) (.int 18) = some (.fz (.int 1000000000000000000)) := by kernel_rfl
def scD (ns : List Int) : T3.D := .list (ns.map PyData.int)
theorem dr_body {a b c d f g h : Int} (ha : cmulB 0 a = true) (hcm : ∀ x, cmulB x a = true ∧ cmulB x b = true ∧ cmulB x d = true ∧ cmulB 11 x = true) (hc : 0 < c) (hf : 0 < f) (hg : 0 < g) (hg2 : g < 1073741824) (hh : 0 < h) {G : Nat} (hG : g = (G : Int))
    (ns : List Int) (hn : ns.length ≤ 63) : ∃ (ds : List Nat) (e : En), drawsB a b c d f g h [.fz (scD ns), .non, .non, .non, .non, .non] = .rt (.sl 1) e ∧ e[1]? = some (.ow (drD ds)) ∧ ds.length ≤ 4000 := by
  have hlen : pLen (scD ns) = some (.fz (.int (ns.length : Int))) := by
    have e : pLen (scD ns) = some (.fz (.int ((ns.map PyData.int).length : Nat))) := rfl
    rw [e, List.length_map]
  have lp60 : ∀ (n : Nat) (e : En), n + 60 < 1000000 → DrE (.fz (scD ns)) n e → ∃ e', sFor (iRange1 (vC (.int 60))) (gN [] 4) (drT g) e = .nx e' ∧ DrE (.fz (scD ns)) (n + 60) e' := fun n e h1 h2 => by
    subst hG
    obtain ⟨e', h3, h4⟩ := drL_ok (c := G) (by omega) (by omega) (.fz (scD ns)) n h1 e h2
    refine ⟨e', for_ok (ds := rangeD 0 60) (e := e) ?_ h3, h4⟩
    have r : fit62 60 = true := by decide
    simp only [e_vName, e_vC, e_rd, e_fz, e_op1, e_op2, e_aNil, e_aCons, e_aLast, e_opN, e_dsp, e_opC, e_vOr, e_vAnd, e_vNot, e_vIf, e_tst, e_tru, e_tAnd, e_tOr, e_tNot, e_opMt, e_ptNone, e_ptSome, e_opSl, e_opSt, e_callF, e_callIo, e_mMut, e_vDict0, e_vDict, e_dCons, e_dNil, e_sNil, e_sSeq, e_sIf, e_sRet, e_sRetN, e_sExpr, e_sBk, e_sCt, e_sSet, e_slF, e_sAsg, e_sPut, e_iSeq, e_iRange1, e_iRange2, e_iEnum, e_tstYes, e_gN0, e_gT, e_gsNil, e_gsCons, e_eqI, fzR, Rv.get, getA, allFz, appO, Out.rv, List.getElem?_cons_zero, List.getElem?_cons_succ, List.set_cons_zero, List.set_cons_succ, Nat.reduceAdd, List.length_cons, List.length_nil, if_true, if_false, one, decide_true, decide_false, Bool.xor_false, Bool.false_xor, Bool.true_xor, Bool.not_true, Bool.not_false, oTup, oLst, splitL, List.cons_append, List.nil_append, e_gN, and_self, o_addI, o_subI, o_mulI, o_modI, o_neg, o_ltI, o_leI, o_gtI, o_geI, o_isN, o_nN, o_nB, o_nI, o_nS, o_nT, o_nL, o_nD, o_isB, o_itL, o_itT, o_listL, o_listT, o_tupL, o_tupT, o_lenL, o_lenT, o_lenS, o_abs, o_toInt, o_app, o_ixTn, o_ixLn, o_ixDct, o_inDct, o_setLn, o_setDct, o_sumL, o_sumT, o_ln0, o_ln1, o_ln2, o_ln3, o_ln4, o_ln5, o_ln6, o_ln7, o_ln8, o_ln9, o_ln10, o_ln11, o_ixT0, o_ixL0, o_setL0, o_ixT1, o_ixL1, o_setL1, o_ixT2, o_ixL2, o_setL2, o_ixT3, o_ixL3, o_setL3, o_ixT4, o_ixL4, o_setL4, o_ixT5, o_ixL5, o_setL5, o_ixT6, o_ixL6, o_setL6, o_ixT7, o_ixL7, o_setL7, o_ixT8, o_ixL8, o_setL8, o_ixT9, o_ixL9, o_setL9, o_divI, Option.map_some, Option.map_none, List.not_mem_nil, reduceIte, Bool.false_eq_true, List.mem_singleton, Nat.reduceLT, Nat.reduceLeDiff, Int.reduceLT, Int.reduceLE, Nat.reduceEqDiff, Int.reduceNeg, r]
  have key : ∃ e', fl (gN [] 2) (drR (sFor (iRange1 (vC (.int 60))) (gN [] 4) (drT g)) (drS a b c d f g h)) ((List.range ns.length).map fun (j : Nat) => PyData.int (j : Int)) [.fz (scD ns), .ow (drD []), .non, .non, .non, .non] = .nx e' ∧ ∃ (ds : List Nat) (k r t st : Slot), e' = [.fz (scD ns), .ow (drD ds), k, r, t, st] ∧ ds.length ≤ 60 * (List.range ns.length).length := by
    refine fl_all (enc := fun (j : Nat) => PyData.int (j : Int)) (fun pre e => ∃ (ds : List Nat) (k r t st : Slot), e = [.fz (scD ns), .ow (drD ds), k, r, t, st] ∧ ds.length ≤ 60 * pre.length) (List.range ns.length) _ ⟨[], _, _, _, _, rfl, Nat.zero_le _⟩ fun pre k post hp e hP => ?_
    obtain ⟨ds, k0, r, t, st, rfl, hl⟩ := hP
    have hpl : pre.length < 63 := by
      have := congrArg List.length hp
      rw [List.length_range, List.length_append, List.length_cons] at this
      omega
    have hk : k < ns.length := by
      have : k ∈ List.range ns.length := by rw [hp]; simp
      exact List.mem_range.mp this
    have hi : pIxA (scD ns) (.int (k : Int)) = some (.fz (.int ns[k])) := by
      unfold scD
      rw [o_ixLn, List.getElem?_map, List.getElem?_eq_getElem hk]
      rfl
    generalize ns[k] = i at hi
    by_cases hbig : (1000000000000000000 : Int) ≤ (if i < 0 then -i else i)
    · obtain ⟨e', h3, h4⟩ := lp60 (60 * pre.length) [.fz (scD ns), .ow (drD ds), .fz (.int (k : Int)), .fz (.int (if i < 0 then -i else i)), t, st] (by omega) ⟨ds, _, (if i < 0 then -i else i).toNat, t, st, by
        have : (((if i < 0 then -i else i).toNat : Nat) : Int) = if i < 0 then -i else i := by split <;> omega
        rw [this], hl⟩
      obtain ⟨ds', k1, r1, t1, st1, e5, e6⟩ := h4
      refine ⟨_, e', rfl, drR_one hi pow18 _ _ _ _ (fun _ => h3) (fun z => absurd hbig z), ds', k1, _, t1, st1, e5, by rw [List.length_append, List.length_singleton]; omega⟩
    · have h3 := drS_one (k := (k : Int)) (rest := (if i < 0 then -i else i)) (hcm _).1 (hcm _).2.1 hc (hcm _).2.2.1 (hcm _).2.2.2 hf hg hg2 hh rfl rfl (nat_mod _ g hg) (nat_mod _ h hh) (.fz (scD ns)) t st ds (by omega)
      refine ⟨_, _, rfl, drR_one hi pow18 _ _ _ _ (fun z => absurd z hbig) (fun _ => h3), _, _, _, _, _, rfl, by simp; omega⟩
  obtain ⟨e', h1, ds, k, r, t, st, rfl, hl⟩ := key
  rw [List.length_range] at hl
  refine ⟨ds, [.fz (scD ns), .ow (drD ds), k, r, t, st], ?_, rfl, by omega⟩
  have hm : pMin [.int 63, .int (ns.length : Int)] = some (.fz (.int (ns.length : Int))) := by
    show some (Out.fz (.int (if (ns.length : Int) < 63 then (ns.length : Int) else 63))) = _
    split
    · rfl
    · rw [show (63 : Int) = (ns.length : Int) from by omega]
  have hF : fit62 (ns.length : Int) = true := fit62_nat (by omega)
  have e3 : sFor (iRange1 (opN pMin (aCons (vC (.int 63)) (aLast (opN (one pLen) (aLast (vName 0))))))) (gN [] 2) (drR (sFor (iRange1 (vC (.int 60))) (gN [] 4) (drT g)) (drS a b c d f g h)) [.fz (scD ns), .ow (drD []), .non, .non, .non, .non] = .nx [.fz (scD ns), .ow (drD ds), k, r, t, st] := by
    refine for_ok (ds := rangeD 0 (ns.length : Int)) (e := [.fz (scD ns), .ow (drD []), .non, .non, .non, .non]) ?_ ?_
    · simp only [e_vName, e_vC, e_rd, e_fz, e_op1, e_op2, e_aNil, e_aCons, e_aLast, e_opN, e_dsp, e_opC, e_vOr, e_vAnd, e_vNot, e_vIf, e_tst, e_tru, e_tAnd, e_tOr, e_tNot, e_opMt, e_ptNone, e_ptSome, e_opSl, e_opSt, e_callF, e_callIo, e_mMut, e_vDict0, e_vDict, e_dCons, e_dNil, e_sNil, e_sSeq, e_sIf, e_sRet, e_sRetN, e_sExpr, e_sBk, e_sCt, e_sSet, e_slF, e_sAsg, e_sPut, e_iSeq, e_iRange1, e_iRange2, e_iEnum, e_tstYes, e_gN0, e_gT, e_gsNil, e_gsCons, e_eqI, fzR, Rv.get, getA, allFz, appO, Out.rv, List.getElem?_cons_zero, List.getElem?_cons_succ, List.set_cons_zero, List.set_cons_succ, Nat.reduceAdd, List.length_cons, List.length_nil, if_true, if_false, one, decide_true, decide_false, Bool.xor_false, Bool.false_xor, Bool.true_xor, Bool.not_true, Bool.not_false, oTup, oLst, splitL, List.cons_append, List.nil_append, e_gN, and_self, o_addI, o_subI, o_mulI, o_modI, o_neg, o_ltI, o_leI, o_gtI, o_geI, o_isN, o_nN, o_nB, o_nI, o_nS, o_nT, o_nL, o_nD, o_isB, o_itL, o_itT, o_listL, o_listT, o_tupL, o_tupT, o_lenL, o_lenT, o_lenS, o_abs, o_toInt, o_app, o_ixTn, o_ixLn, o_ixDct, o_inDct, o_setLn, o_setDct, o_sumL, o_sumT, o_ln0, o_ln1, o_ln2, o_ln3, o_ln4, o_ln5, o_ln6, o_ln7, o_ln8, o_ln9, o_ln10, o_ln11, o_ixT0, o_ixL0, o_setL0, o_ixT1, o_ixL1, o_setL1, o_ixT2, o_ixL2, o_setL2, o_ixT3, o_ixL3, o_setL3, o_ixT4, o_ixL4, o_setL4, o_ixT5, o_ixL5, o_setL5, o_ixT6, o_ixL6, o_setL6, o_ixT7, o_ixL7, o_setL7, o_ixT8, o_ixL8, o_setL8, o_ixT9, o_ixL9, o_setL9, o_divI, Option.map_some, Option.map_none, List.not_mem_nil, reduceIte, Bool.false_eq_true, List.mem_singleton, Nat.reduceLT, Nat.reduceLeDiff, Int.reduceLT, Int.reduceLE, Nat.reduceEqDiff, Int.reduceNeg, hlen, hm, hF]
    · rw [range_enc]; exact h1
  have hd : (PyData.list [] : T3.D) = drD [] := rfl
  unfold drawsB
  generalize sFor (iRange1 (opN pMin (aCons (vC (.int 63)) (aLast (opN (one pLen) (aLast (vName 0))))))) (gN [] 2) (drR (sFor (iRange1 (vC (.int 60))) (gN [] 4) (drT g)) (drS a b c d f g h)) = lp at e3
  simp only [e_vName, e_vC, e_rd, e_fz, e_op1, e_op2, e_aNil, e_aCons, e_aLast, e_opN, e_dsp, e_opC, e_vOr, e_vAnd, e_vNot, e_vIf, e_tst, e_tru, e_tAnd, e_tOr, e_tNot, e_opMt, e_ptNone, e_ptSome, e_opSl, e_opSt, e_callF, e_callIo, e_mMut, e_vDict0, e_vDict, e_dCons, e_dNil, e_sNil, e_sSeq, e_sIf, e_sRet, e_sRetN, e_sExpr, e_sBk, e_sCt, e_sSet, e_slF, e_sAsg, e_sPut, e_iSeq, e_iRange1, e_iRange2, e_iEnum, e_tstYes, e_gN0, e_gT, e_gsNil, e_gsCons, e_eqI, fzR, Rv.get, getA, allFz, appO, Out.rv, List.getElem?_cons_zero, List.getElem?_cons_succ, List.set_cons_zero, List.set_cons_succ, Nat.reduceAdd, List.length_cons, List.length_nil, if_true, if_false, one, decide_true, decide_false, Bool.xor_false, Bool.false_xor, Bool.true_xor, Bool.not_true, Bool.not_false, oTup, oLst, splitL, List.cons_append, List.nil_append, e_gN, and_self, o_addI, o_subI, o_mulI, o_modI, o_neg, o_ltI, o_leI, o_gtI, o_geI, o_isN, o_nN, o_nB, o_nI, o_nS, o_nT, o_nL, o_nD, o_isB, o_itL, o_itT, o_listL, o_listT, o_tupL, o_tupT, o_lenL, o_lenT, o_lenS, o_abs, o_toInt, o_app, o_ixTn, o_ixLn, o_ixDct, o_inDct, o_setLn, o_setDct, o_sumL, o_sumT, o_ln0, o_ln1, o_ln2, o_ln3, o_ln4, o_ln5, o_ln6, o_ln7, o_ln8, o_ln9, o_ln10, o_ln11, o_ixT0, o_ixL0, o_setL0, o_ixT1, o_ixL1, o_setL1, o_ixT2, o_ixL2, o_setL2, o_ixT3, o_ixL3, o_setL3, o_ixT4, o_ixL4, o_setL4, o_ixT5, o_ixL5, o_setL5, o_ixT6, o_ixL6, o_setL6, o_ixT7, o_ixL7, o_setL7, o_ixT8, o_ixL8, o_setL8, o_ixT9, o_ixL9, o_setL9, o_divI, Option.map_some, Option.map_none, List.not_mem_nil, reduceIte, Bool.false_eq_true, List.mem_singleton, Nat.reduceLT, Nat.reduceLeDiff, Int.reduceLT, Int.reduceLE, Nat.reduceEqDiff, Int.reduceNeg, hd, e3]
theorem draws_ok (ns : List Int) (hn : ns.length ≤ 63) : ∃ ds : List Nat, mkFn 1 6 false false (drawsB 48271 69621 2147483647 16807 2147483629 65536 32768) [scD ns] = .ok (drD ds) none ∧ ds.length ≤ 4000 := by
  obtain ⟨ds, e, h1, h2, h3⟩ := dr_body (a := 48271) (b := 69621) (c := 2147483647) (d := 16807) (f := 2147483629) (g := 65536) (h := 32768) rfl (fun x => ⟨cmul_r _ _ (by decide) (by decide), cmul_r _ _ (by decide) (by decide), cmul_r _ _ (by decide) (by decide), by unfold cmulB; rfl⟩) (by decide) (by decide) (by decide) (by decide) (by decide) (G := 65536) rfl ns hn
  refine ⟨ds, ?_, h3⟩
  unfold mkFn
  rw [if_pos ⟨rfl, fun h => by cases h⟩]
  refine (congrArg (T3.finish false false 0) h1).trans ?_
  unfold finish
  dsimp only
  rw [h2]
  rfl
end T3
end

section
namespace K77
open PySem PySem.Spec PyProof.Rows L2 T3
abbrev prog : Program := PySem.Challenge.pw_matestold_k77_whole_counts_of_first_rows
def top (i : Nat) : Stmt := prog.main.body.getD i (.Pass ⟨0, 0, 0, 0⟩)
/-- what the names of the top stand for -/
structure Gs (mg : Str → Option Value) : Prop where
  f_abs : mg "abs" = none
  f_any : mg "any" = none
  f_enumerate : mg "enumerate" = none
  f_int : mg "int" = none
  f_len : mg "len" = none
  f_list : mg "list" = none
  f_min : mg "min" = none
  f_range : mg "range" = none
  f_repr : mg "repr" = none
  f_sum : mg "sum" = none
  f_tuple : mg "tuple" = none
  g_MOST_REST : ∃ t, mg "MOST_REST" = some (.int 7 t)
  g_SIGNS : ∃ t, mg "SIGNS" = some (.str "BKNQR" t)
/-! ### _law_draws -/
abbrev st__law_draws : Stmt := top 19
abbrev N__law_draws : List Str := ["script", "draws", "k", "rest", "turn", "stirred"]
abbrev P__law_draws : List Str := ["script"]
theorem S__law_draws : FnScope N__law_draws P__law_draws (defScope st__law_draws) := ⟨rfl, rfl, rfl, by decide +kernel, rfl, by decide +kernel, by decide +kernel⟩
def B__law_draws : SX := sSeq (sSet [] 1 (dsp oLst (aNil)))
    (sSeq (sFor (iRange1 (opN pMin (aCons (vC (.int 63)) (aLast (opN (one pLen) (aLast (vName 0))))))) (gN [] 2) (sSeq (sSet [] 3 (opN (one pAbs) (aLast (op2 pIxA (vName 0) (vName 2)))))
    (sIf (tst (op2 pGe (vName 3) (op2 pPow (vC (.int 10)) (vC (.int 18))))) (sFor (iRange1 (vC (.int 60))) (gN [] 4) (sIf (tst (op2 pGt (vName 3) (vC (.int 0)))) (sSeq (sExpr (mMut "list" opAppend 1 (aCons (fz [] (op2 pMod (opN (one pToInt) (aLast (vName 3))) (vC (.int 65536)))) (aNil))))
    (sSet [] 3 (op2 pDiv (vName 3) (vC (.int 65536))))) (sNil))) (sSeq (sSet [] 5 (op2 pMod (opN (one pToInt) (aLast (op2 pAdd (op2 pMul (vName 3) (vC (.int 48271))) (op2 pMul (op2 pAdd (vName 2) (vC (.int 1))) (vC (.int 69621)))))) (vC (.int 2147483647))))
    (sSeq (sSet [] 5 (op2 pMod (opN (one pToInt) (aLast (op2 pAdd (op2 pAdd (op2 pMul (vName 5) (vC (.int 16807))) (op2 pMul (vC (.int 11)) (vName 2))) (vC (.int 5))))) (vC (.int 2147483629))))
    (sSeq (sExpr (mMut "list" opAppend 1 (aCons (fz [] (op2 pMod (opN (one pToInt) (aLast (vName 5))) (vC (.int 65536)))) (aNil))))
    (sExpr (mMut "list" opAppend 1 (aCons (fz [] (op2 pMod (opN (one pToInt) (aLast (op2 pDiv (vName 5) (vC (.int 65536))))) (vC (.int 32768)))) (aNil))))))))))
    (sRet (vName 1)))
def F__law_draws : List D → FR := mkFn 1 6 false false B__law_draws
/-! ### _law_mix -/
abbrev st__law_mix : Stmt := top 20
abbrev N__law_mix : List Str := ["draws", "k", "many", "cell"]
abbrev P__law_mix : List Str := ["draws", "k", "many"]
theorem S__law_mix : FnScope N__law_mix P__law_mix (defScope st__law_mix) := ⟨rfl, rfl, rfl, by decide +kernel, rfl, by decide +kernel, by decide +kernel⟩
def B__law_mix : SX := sSeq (sSet [] 3 (vC (.int 0)))
    (sSeq (sIf (tst (op2 pGt (opN (one pLen) (aLast (vName 0))) (vC (.int 0)))) (sSet [] 3 (op2 pIxA (vName 0) (op2 pMod (opN (one pToInt) (aLast (vName 1))) (opN (one pLen) (aLast (vName 0)))))) (sNil))
    (sSeq (sIf (tst (op2 pLt (vName 1) (opN (one pLen) (aLast (vName 0))))) (sRet (op2 pMod (opN (one pToInt) (aLast (vName 3))) (vName 2))) (sNil))
    (sRet (op2 pMod (opN (one pToInt) (aLast (op2 pDiv (opN (one pToInt) (aLast (op2 pAdd (op2 pMul (vName 3) (vC (.int 7919))) (op2 pMul (vName 1) (vC (.int 104729)))))) (vC (.int 3))))) (vName 2)))))
def F__law_mix : List D → FR := mkFn 3 4 false false B__law_mix
/-! ### check_kind -/
abbrev st_check_kind : Stmt := top 8
abbrev N_check_kind : List Str := ["kind"]
abbrev P_check_kind : List Str := ["kind"]
theorem S_check_kind : FnScope N_check_kind P_check_kind (defScope st_check_kind) := ⟨rfl, rfl, rfl, by decide +kernel, rfl, by decide +kernel, by decide +kernel⟩
def B_check_kind : SX := sIf (tOr (tst (op2 pLt (opN pMin (aLast (vName 0))) (vC (.int 0)))) (tst (op2 pGt (opN pSum (aLast (vName 0))) (vC (.int 7))))) (sBad) (sNil)
def F_check_kind : List D → FR := mkFn 1 1 false false B_check_kind
/-! ### step -/
abbrev st_step : Stmt := top 10
abbrev N_step : List Str := ["state", "sign", "place", "left", "rooks", "gap", "now"]
abbrev P_step : List Str := ["state", "sign", "place"]
theorem S_step : FnScope N_step P_step (defScope st_step) := ⟨rfl, rfl, rfl, by decide +kernel, rfl, by decide +kernel, by decide +kernel⟩
def B_step : SX := sSeq (sAsg [] (vName 0) (gT 3 (gsCons (gN [] 3) (gsCons (gN [] 4) (gsCons (gN [] 5) (gsNil))))))
    (sSeq (sIf (tOr (tst (op2 (pEq false) (op2 pIxA (vName 3) (opMt pSIndex (vC (.str "BKNQR")) (aLast (vName 1)))) (vC (.int 0)))) (tAnd (tst (op2 (pEq false) (vName 1) (vC (.str "K")))) (tst (op2 (pEq true) (vName 4) (vC (.int 1)))))) (sRet (vC .none)) (sNil))
    (sSeq (sSet [] 6 (opN (one pList) (aLast (vName 3))))
    (sSeq (sPut [] opSetA 6 (opMt pSIndex (vC (.str "BKNQR")) (aLast (vName 1))) (op2 pSub (op2 pIxA (vName 6) (opMt pSIndex (vC (.str "BKNQR")) (aLast (vName 1)))) (vC (.int 1))))
    (sSeq (sIf (tst (op2 (pEq false) (vName 1) (vC (.str "R")))) (sSeq (sIf (tAnd (tst (op2 (pEq false) (vName 4) (vC (.int 1)))) (tst (op2 (pEq false) (op2 pIxA (vName 3) (opMt pSIndex (vC (.str "BKNQR")) (aLast (vC (.str "K"))))) (vC (.int 1))))) (sRet (vC .none)) (sNil))
    (sSet [] 4 (op2 pAdd (vName 4) (vC (.int 1))))) (sNil))
    (sSeq (sIf (tst (op2 (pEq false) (vName 1) (vC (.str "B")))) (sSet [] 5 (op2 pAdd (vName 5) (vIf (tst (op2 (pEq false) (op2 pMod (vName 2) (vC (.int 2))) (vC (.int 0)))) (vC (.int 1)) (op1 pNeg (vC (.int 1)))))) (sNil))
    (sRet (dsp oTup (aCons (opN (one pTuple) (aLast (vName 6))) (aCons (vName 4) (aLast (vName 5)))))))))))
def F_step : List D → FR := mkFn 3 7 false false B_step
/-! ### ways_from -/
abbrev st_ways_from : Stmt := top 12
abbrev N_ways_from : List Str := ["state", "place", "known", "key", "found", "sign", "there"]
abbrev P_ways_from : List Str := ["state", "place", "known"]
theorem S_ways_from : FnScope N_ways_from P_ways_from (defScope st_ways_from) := ⟨rfl, rfl, rfl, by decide +kernel, rfl, by decide +kernel, by decide +kernel⟩
def B_ways_from (rec : List D → FR) : SX := sSeq (sIf (tst (op2 (pEq false) (opN pSum (aLast (op2 pIxA (vName 0) (vC (.int 0))))) (vC (.int 0)))) (sRet (vIf (tst (op2 pLe (opN (one pAbs) (aLast (op2 pIxA (vName 0) (vC (.int 2))))) (vC (.int 1)))) (vC (.int 1)) (vC (.int 0)))) (sNil))
    (sSeq (sSet [2] 3 (dsp oTup (aCons (vName 0) (aLast (op2 pMod (vName 1) (vC (.int 2)))))))
    (sSeq (sIf (tst (op2 (pInA true) (vName 3) (vName 2))) (sSeq (sSet [2] 4 (vC (.int 0)))
    (sSeq (sFor (iSeq [2] (vC (.str "BKNQR"))) (gN [2] 5) (sSeq (sSet [2] 6 (callF false (F_step) (aCons (fz [2] (vName 0)) (aCons (fz [2] (vName 5)) (aCons (fz [2] (vName 1)) (aNil))))))
    (sIf (tst (op2 (pIs true) (vName 6) (vC .none))) (sSet [2] 4 (op2 pAdd (vName 4) (callIo false (rec) (aCons (vName 6) (aCons (op2 pAdd (vName 1) (vC (.int 1))) (aLast (vName 2))))))) (sNil))))
    (sPut [2] opSetA 2 (vName 3) (vName 4)))) (sNil))
    (sRet (op2 pIxA (vName 2) (vName 3)))))
def F_ways_from : Nat → List D → FR
  | 0 => fun _ => .bad
  | n + 1 => mkFn 3 7 true false (B_ways_from (F_ways_from n))
/-! ### stock_of -/
abbrev st_stock_of : Stmt := top 9
abbrev N_stock_of : List Str := ["kind", "bishops", "knights", "queens"]
abbrev P_stock_of : List Str := ["kind"]
theorem S_stock_of : FnScope N_stock_of P_stock_of (defScope st_stock_of) := ⟨rfl, rfl, rfl, by decide +kernel, rfl, by decide +kernel, by decide +kernel⟩
def B_stock_of : SX := sSeq (sAsg [] (vName 0) (gT 3 (gsCons (gN [] 1) (gsCons (gN [] 2) (gsCons (gN [] 3) (gsNil))))))
    (sRet (vDict (dCons [] (vC (.str "B")) (vName 1) (dCons [] (vC (.str "K")) (vC (.int 1)) (dCons [] (vC (.str "N")) (vName 2) (dCons [] (vC (.str "Q")) (vName 3) (dCons [] (vC (.str "R")) (vC (.int 2)) (dNil))))))))
def F_stock_of : List D → FR := mkFn 1 4 false false B_stock_of
/-! ### first_state -/
abbrev st_first_state : Stmt := top 11
abbrev N_first_state : List Str := ["kind", "stock", "sign"]
abbrev P_first_state : List Str := ["kind"]
theorem S_first_state : FnScope N_first_state P_first_state (defScope st_first_state) := ⟨rfl, rfl, rfl, by decide +kernel, rfl, by decide +kernel, by decide +kernel⟩
def B_first_state : SX := sSeq (sSet [] 1 (callF false (F_stock_of) (aCons (fz [] (vName 0)) (aNil))))
    (sRet (dsp oTup (aCons (opN (one pTuple) (aLast (vLc [2] [] (iSeq [] (vC (.str "BKNQR"))) (gN [] 2) (tstYes) (op2 pIxA (vName 1) (vName 2))))) (aCons (vC (.int 0)) (aLast (vC (.int 0)))))))
def F_first_state : List D → FR := mkFn 1 3 false false B_first_state
/-! ### count -/
abbrev st_count : Stmt := top 13
abbrev N_count : List Str := ["kind"]
abbrev P_count : List Str := ["kind"]
theorem S_count : FnScope N_count P_count (defScope st_count) := ⟨rfl, rfl, rfl, by decide +kernel, rfl, by decide +kernel, by decide +kernel⟩
def B_count : SX := sSeq (sExpr (callF false (F_check_kind) (aCons (fz [] (vName 0)) (aNil))))
    (sRet (callIo false (F_ways_from 12) (aCons (callF false (F_first_state) (aCons (fz [] (vName 0)) (aNil))) (aCons (vC (.int 0)) (aLast (vDict0))))))
def F_count : List D → FR := mkFn 1 1 false false B_count
/-! ### row_of -/
abbrev st_row_of : Stmt := top 14
abbrev N_row_of : List Str := ["kind", "number", "known", "state", "found", "place", "left", "good", "sign", "there", "ways"]
abbrev P_row_of : List Str := ["kind", "number"]
theorem S_row_of : FnScope N_row_of P_row_of (defScope st_row_of) := ⟨rfl, rfl, rfl, by decide +kernel, rfl, by decide +kernel, by decide +kernel⟩
def B_row_of : SX := sSeq (sExpr (callF false (F_check_kind) (aCons (fz [] (vName 0)) (aNil))))
    (sSeq (sSet [] 2 (vDict0))
    (sSeq (sSet [] 3 (callF false (F_first_state) (aCons (fz [] (vName 0)) (aNil))))
    (sSeq (sIf (tNot (tst (opC pLe pLt (vC (.int 0)) (vName 1) (callIo false (F_ways_from 12) (aCons (vName 3) (aCons (vC (.int 0)) (aLast (vName 2)))))))) (sBad) (sNil))
    (sSeq (sSet [] 4 (vC (.str "")))
    (sSeq (sFor (iRange1 (op2 pAdd (opN pSum (aLast (vName 0))) (vC (.int 3)))) (gN [] 5) (sSeq (sSet [] 6 (vName 1))
    (sSeq (sSet [] 7 (vC .none))
    (sSeq (sFor (iSeq [] (vC (.str "BKNQR"))) (gN [] 8) (sSeq (sSet [] 9 (callF false (F_step) (aCons (fz [] (vName 3)) (aCons (fz [] (vName 8)) (aCons (fz [] (vName 5)) (aNil))))))
    (sSeq (sSet [] 10 (vIf (tst (op2 (pIs false) (vName 9) (vC .none))) (vC (.int 0)) (callIo false (F_ways_from 12) (aCons (vName 9) (aCons (op2 pAdd (vName 5) (vC (.int 1))) (aLast (vName 2)))))))
    (sSeq (sIf (tAnd (tst (op2 (pIs false) (vName 7) (vC .none))) (tst (op2 pLt (vName 6) (vName 10)))) (sSet [] 7 (dsp oTup (aCons (vName 8) (aCons (vName 9) (aLast (vName 6)))))) (sNil))
    (sSet [] 6 (op2 pSub (vName 6) (vName 10)))))))
    (sSeq (sSet [] 4 (op2 pAdd (vName 4) (op2 pIxA (vName 7) (vC (.int 0)))))
    (sSeq (sSet [] 3 (op2 pIxA (vName 7) (vC (.int 1))))
    (sSet [] 1 (op2 pIxA (vName 7) (vC (.int 2))))))))))
    (sRet (vName 4)))))))
def F_row_of : List D → FR := mkFn 2 11 false false B_row_of
/-! ### fits -/
abbrev st_fits : Stmt := top 15
abbrev N_fits : List Str := ["kind", "row", "stock", "king", "sign"]
abbrev P_fits : List Str := ["kind", "row"]
theorem S_fits : FnScope N_fits P_fits (defScope st_fits) := ⟨rfl, rfl, rfl, by decide +kernel, rfl, by decide +kernel, by decide +kernel⟩
def B_fits : SX := sSeq (sExpr (callF false (F_check_kind) (aCons (fz [] (vName 0)) (aNil))))
    (sSeq (sSet [] 2 (callF false (F_stock_of) (aCons (fz [] (vName 0)) (aNil))))
    (sSeq (sIf (tOr (tst (op2 (pEq true) (opN (one pLen) (aLast (vName 1))) (op2 pAdd (opN pSum (aLast (vName 0))) (vC (.int 3))))) (tru (opN pAny (aLast (vLc [4] [] (iSeq [] (vC (.str "BKNQR"))) (gN [] 4) (tstYes) (op2 (pEq true) (opMt pSCount (vName 1) (aLast (vName 4))) (op2 pIxA (vName 2) (vName 4)))))))) (sRet (vC (.bool false))) (sNil))
    (sSeq (sSet [] 3 (opMt pSIndex (vName 1) (aLast (vC (.str "K")))))
    (sSeq (sIf (tOr (tst (op2 (pInA true) (vC (.str "R")) (opSl (vName 1) (ptNone) (ptSome (vName 3))))) (tst (op2 (pInA true) (vC (.str "R")) (opSl (vName 1) (ptSome (vName 3)) (ptNone))))) (sRet (vC (.bool false))) (sNil))
    (sRet (op2 pLe (opN (one pAbs) (aLast (op2 pSub (opMt pSCount (opSt (vName 1) (ptNone) (ptNone) (ptSome (vC (.int 2)))) (aLast (vC (.str "B")))) (opMt pSCount (opSt (vName 1) (ptSome (vC (.int 1))) (ptNone) (ptSome (vC (.int 2)))) (aLast (vC (.str "B"))))))) (vC (.int 1))))))))
def F_fits : List D → FR := mkFn 2 5 false false B_fits
/-! ### number_of -/
abbrev st_number_of : Stmt := top 16
abbrev N_number_of : List Str := ["kind", "row", "known", "state", "found", "place", "sign", "other", "there"]
abbrev P_number_of : List Str := ["kind", "row"]
theorem S_number_of : FnScope N_number_of P_number_of (defScope st_number_of) := ⟨rfl, rfl, rfl, by decide +kernel, rfl, by decide +kernel, by decide +kernel⟩
def B_number_of : SX := sSeq (sIf (tNot (tru (callF false (F_fits) (aCons (fz [] (vName 0)) (aCons (fz [] (vName 1)) (aNil)))))) (sBad) (sNil))
    (sSeq (sSet [] 2 (vDict0))
    (sSeq (sSet [] 3 (callF false (F_first_state) (aCons (fz [] (vName 0)) (aNil))))
    (sSeq (sSet [] 4 (vC (.int 0)))
    (sSeq (sFor (iEnum [] (vName 1)) (gT 2 (gsCons (gN [] 5) (gsCons (gN [] 6) (gsNil)))) (sSeq (sFor (iSeq [] (opSl (vC (.str "BKNQR")) (ptNone) (ptSome (opMt pSIndex (vC (.str "BKNQR")) (aLast (vName 6)))))) (gN [] 7) (sSeq (sSet [] 8 (callF false (F_step) (aCons (fz [] (vName 3)) (aCons (fz [] (vName 7)) (aCons (fz [] (vName 5)) (aNil))))))
    (sSet [] 4 (op2 pAdd (vName 4) (vIf (tst (op2 (pIs false) (vName 8) (vC .none))) (vC (.int 0)) (callIo false (F_ways_from 12) (aCons (vName 8) (aCons (op2 pAdd (vName 5) (vC (.int 1))) (aLast (vName 2))))))))))
    (sSet [] 3 (callF false (F_step) (aCons (fz [] (vName 3)) (aCons (fz [] (vName 6)) (aCons (fz [] (vName 5)) (aNil))))))))
    (sRet (vName 4))))))
def F_number_of : List D → FR := mkFn 2 9 false false B_number_of
/-! ### own_mirrored -/
abbrev st_own_mirrored : Stmt := top 17
abbrev N_own_mirrored : List Str := ["kind", "rows", "number", "row"]
abbrev P_own_mirrored : List Str := ["kind"]
theorem S_own_mirrored : FnScope N_own_mirrored P_own_mirrored (defScope st_own_mirrored) := ⟨rfl, rfl, rfl, by decide +kernel, rfl, by decide +kernel, by decide +kernel⟩
def B_own_mirrored : SX := sSeq (sSet [] 1 (vLc [2] [] (iRange1 (callF false (F_count) (aCons (fz [] (vName 0)) (aNil)))) (gN [] 2) (tstYes) (callF false (F_row_of) (aCons (fz [] (vName 0)) (aCons (fz [] (vName 2)) (aNil))))))
    (sRet (vLc [3] [] (iSeq [] (vName 1)) (gN [] 3) (tst (op2 (pEq false) (vName 3) (opSt (vName 3) (ptNone) (ptNone) (ptSome (op1 pNeg (vC (.int 1))))))) (vName 3)))
def F_own_mirrored : List D → FR := mkFn 1 4 false false B_own_mirrored
/-! ### _law_ways -/
abbrev st__law_ways : Stmt := top 21
abbrev N__law_ways : List Str := ["n", "k", "row", "turn", "t"]
abbrev P__law_ways : List Str := ["n", "k"]
theorem S__law_ways : FnScope N__law_ways P__law_ways (defScope st__law_ways) := ⟨rfl, rfl, rfl, by decide +kernel, rfl, by decide +kernel, by decide +kernel⟩
def B__law_ways : SX := sSeq (sSet [] 2 (dsp oLst (aLast (vC (.int 1)))))
    (sSeq (sFor (iRange1 (vName 0)) (gN [] 3) (sSet [] 2 (op2 pAdd (op2 pAdd (dsp oLst (aLast (vC (.int 1)))) (vLc [4] [] (iRange2 (vC (.int 1)) (opN (one pLen) (aLast (vName 2)))) (gN [] 4) (tstYes) (op2 pAdd (op2 pIxA (vName 2) (op2 pSub (vName 4) (vC (.int 1)))) (op2 pIxA (vName 2) (vName 4))))) (dsp oLst (aLast (vC (.int 1)))))))
    (sSeq (sIf (tNot (tst (opC pLe pLe (vC (.int 0)) (vName 1) (vName 0)))) (sRet (vC (.int 0))) (sNil))
    (sRet (op2 pIxA (vName 2) (vName 1)))))
def F__law_ways : List D → FR := mkFn 2 5 false false B__law_ways
/-! ### _law_count -/
abbrev st__law_count : Stmt := top 22
abbrev N__law_count : List Str := ["kind", "bishops", "knights", "queens", "wide", "even", "half", "places"]
abbrev P__law_count : List Str := ["kind"]
theorem S__law_count : FnScope N__law_count P__law_count (defScope st__law_count) := ⟨rfl, rfl, rfl, by decide +kernel, rfl, by decide +kernel, by decide +kernel⟩
def B__law_count : SX := sSeq (sAsg [] (vName 0) (gT 3 (gsCons (gN [] 1) (gsCons (gN [] 2) (gsCons (gN [] 3) (gsNil))))))
    (sSeq (sSet [] 4 (op2 pAdd (opN pSum (aLast (vName 0))) (vC (.int 3))))
    (sSeq (sSet [] 5 (op2 pDiv (op2 pAdd (vName 4) (vC (.int 1))) (vC (.int 2))))
    (sSeq (sSet [] 6 (op2 pDiv (vName 1) (vC (.int 2))))
    (sSeq (sSet [] 7 (op2 pMul (callF false (F__law_ways) (aCons (fz [] (vName 5)) (aCons (fz [] (vName 6)) (aNil)))) (callF false (F__law_ways) (aCons (fz [] (op2 pSub (vName 4) (vName 5))) (aCons (fz [] (op2 pSub (vName 1) (vName 6))) (aNil))))))
    (sSeq (sIf (tst (op2 (pEq true) (vName 1) (op2 pMul (vC (.int 2)) (vName 6)))) (sSet [] 7 (op2 pAdd (vName 7) (op2 pMul (callF false (F__law_ways) (aCons (fz [] (vName 5)) (aCons (fz [] (op2 pAdd (vName 6) (vC (.int 1)))) (aNil)))) (callF false (F__law_ways) (aCons (fz [] (op2 pSub (vName 4) (vName 5))) (aCons (fz [] (vName 6)) (aNil))))))) (sNil))
    (sRet (op2 pMul (op2 pMul (vName 7) (callF false (F__law_ways) (aCons (fz [] (op2 pSub (vName 4) (vName 1))) (aCons (fz [] (vC (.int 3))) (aNil))))) (callF false (F__law_ways) (aCons (fz [] (op2 pAdd (vName 2) (vName 3))) (aCons (fz [] (vName 2)) (aNil)))))))))))
def F__law_count : List D → FR := mkFn 1 8 false false B__law_count
/-! ### law -/
abbrev st_law : Stmt := top 23
abbrev N_law : List Str := ["script", "draws", "turn", "kind", "t", "k", "size", "number", "row", "last", "back", "told"]
abbrev P_law : List Str := ["script"]
theorem S_law : FnScope N_law P_law (defScope st_law) := ⟨rfl, rfl, rfl, by decide +kernel, rfl, by decide +kernel, by decide +kernel⟩
def B_law : SX := sSeq (sSet [] 1 (callF false (F__law_draws) (aCons (fz [] (vName 0)) (aNil))))
    (sSeq (sFor (iRange1 (vC (.int 6))) (gN [] 2) (sSeq (sSet [] 3 (dsp oLst (aNil)))
    (sSeq (sFor (iRange1 (vC (.int 3))) (gN [] 4) (sExpr (mMut "list" opAppend 3 (aCons (fz [] (callF false (F__law_mix) (aCons (fz [] (vName 1)) (aCons (fz [] (op2 pAdd (op2 pMul (vC (.int 5)) (vName 2)) (vName 4))) (aCons (fz [] (op2 pSub (vC (.int 8)) (opN pSum (aLast (vName 3))))) (aNil)))))) (aNil)))))
    (sSeq (sSet [] 5 (callF false (F__law_mix) (aCons (fz [] (vName 1)) (aCons (fz [] (op2 pAdd (op2 pMul (vC (.int 5)) (vName 2)) (vC (.int 3)))) (aCons (fz [] (vC (.int 3))) (aNil))))))
    (sSeq (sSet [] 3 (opN (one pTuple) (aLast (op2 pAdd (opSl (vName 3) (ptSome (vName 5)) (ptNone)) (opSl (vName 3) (ptNone) (ptSome (vName 5)))))))
    (sSeq (sSet [] 6 (callF false (F_count) (aCons (fz [] (vName 3)) (aNil))))
    (sSeq (sIf (tOr (tst (op2 (pEq true) (opN (one pReprI) (aLast (vName 6))) (opN (one pReprI) (aLast (callF false (F__law_count) (aCons (fz [] (vName 3)) (aNil))))))) (tst (op2 (pEq true) (callF false (F_count) (aCons (fz [] (dsp oTup (aCons (op2 pIxA (vName 3) (vC (.int 0))) (aCons (op2 pIxA (vName 3) (vC (.int 2))) (aLast (op2 pIxA (vName 3) (vC (.int 1)))))))) (aNil))) (vName 6)))) (sRet (vC (.bool false))) (sNil))
    (sSeq (sIf (tst (op2 pGt (vName 6) (vC (.int 0)))) (sSeq (sSet [] 7 (callF false (F__law_mix) (aCons (fz [] (vName 1)) (aCons (fz [] (op2 pAdd (vC (.int 40)) (vName 2))) (aCons (fz [] (vName 6)) (aNil))))))
    (sSeq (sSet [] 8 (callF false (F_row_of) (aCons (fz [] (vName 3)) (aCons (fz [] (vName 7)) (aNil)))))
    (sSeq (sSet [] 9 (callF false (F_row_of) (aCons (fz [] (vName 3)) (aCons (fz [] (op2 pSub (vName 6) (vC (.int 1)))) (aNil)))))
    (sSeq (sIf (tOr (tst (op2 (pIs true) (callF false (F_fits) (aCons (fz [] (vName 3)) (aCons (fz [] (vName 8)) (aNil)))) (vC (.bool true)))) (tOr (tst (op2 (pEq true) (callF false (F_number_of) (aCons (fz [] (vName 3)) (aCons (fz [] (vName 8)) (aNil)))) (vName 7))) (tOr (tst (op2 pGt (callF false (F_row_of) (aCons (fz [] (vName 3)) (aCons (fz [] (vC (.int 0))) (aNil)))) (vName 8))) (tst (op2 pGt (vName 8) (vName 9)))))) (sRet (vC (.bool false))) (sNil))
    (sSeq (sIf (tAnd (tst (op2 pLt (op2 pAdd (vName 7) (vC (.int 1))) (vName 6))) (tst (op2 pLe (callF false (F_row_of) (aCons (fz [] (vName 3)) (aCons (fz [] (op2 pAdd (vName 7) (vC (.int 1)))) (aNil)))) (vName 8)))) (sRet (vC (.bool false))) (sNil))
    (sSeq (sSet [] 10 (callF false (F_number_of) (aCons (fz [] (vName 3)) (aCons (fz [] (opSt (vName 8) (ptNone) (ptNone) (ptSome (op1 pNeg (vC (.int 1)))))) (aNil)))))
    (sIf (tOr (tst (op2 (pEq true) (callF false (F_row_of) (aCons (fz [] (vName 3)) (aCons (fz [] (vName 10)) (aNil)))) (opSt (vName 8) (ptNone) (ptNone) (ptSome (op1 pNeg (vC (.int 1))))))) (tst (op2 (pEq true) (op2 (pEq false) (vName 10) (vName 7)) (op2 (pEq false) (vName 8) (opSt (vName 8) (ptNone) (ptNone) (ptSome (op1 pNeg (vC (.int 1))))))))) (sRet (vC (.bool false))) (sNil)))))))) (sNil))
    (sIf (tst (op2 pLt (opN pSum (aLast (vName 3))) (vC (.int 4)))) (sSeq (sSet [] 11 (callF false (F_own_mirrored) (aCons (fz [] (vName 3)) (aNil))))
    (sSeq (sFor (iSeq [] (vName 11)) (gN [] 8) (sIf (tOr (tst (op2 (pEq true) (vName 8) (opSt (vName 8) (ptNone) (ptNone) (ptSome (op1 pNeg (vC (.int 1))))))) (tOr (tst (op2 (pEq true) (opN (one pLen) (aLast (vName 8))) (op2 pAdd (opN pSum (aLast (vName 3))) (vC (.int 3))))) (tOr (tst (op2 (pEq true) (op2 pMod (opN (one pToInt) (aLast (opN (one pLen) (aLast (vName 8))))) (vC (.int 2))) (vC (.int 1)))) (tst (op2 (pEq true) (op2 pIxA (vName 8) (op2 pDiv (opN (one pLen) (aLast (vName 8))) (vC (.int 2)))) (vC (.str "K"))))))) (sRet (vC (.bool false))) (sNil)))
    (sIf (tst (op2 (pEq true) (op2 pMod (opN (one pToInt) (aLast (op2 pSub (vName 6) (opN (one pLen) (aLast (vName 11)))))) (vC (.int 2))) (vC (.int 0)))) (sRet (vC (.bool false))) (sNil)))) (sNil))))))))))
    (sRet (vAnd [] (op2 (pEq false) (callF false (F_count) (aCons (fz [] (dsp oTup (aCons (vC (.int 0)) (aCons (vC (.int 0)) (aLast (vC (.int 0))))))) (aNil))) (vC (.int 1))) (op2 (pEq false) (callF false (F_row_of) (aCons (fz [] (dsp oTup (aCons (vC (.int 0)) (aCons (vC (.int 0)) (aLast (vC (.int 0))))))) (aCons (fz [] (vC (.int 0))) (aNil)))) (vC (.str "RKR"))))))
def F_law : List D → FR := mkFn 1 12 false false B_law
theorem ok__law_draws {w : World} {K : PySem.W.Frag} {mg : Str → Option Value} {base : Heap} (G : Gs mg) (D_ : DefAt K mg "_law_draws" st__law_draws P__law_draws)  : Callee prog w K mg base 1 "_law_draws" P__law_draws false false ew0 F__law_draws := by
  refine fn_okD (k := 0) D_ S__law_draws false false ew0 B__law_draws fun f cdv A outer s H E hr => ?_
  exact (psx_cons (psx_set (i := 1) S__law_draws.nd (by rfl) (by first | exact Or.inl rfl | exact Or.inr rfl) (px_lst pax_nil))
    (psx_cons (psx_for (passes_of rfl) rfl (pix_range1 (px_min rfl G.f_min (pax_cons px_int (pax_last (px_len G.f_len (pax_last (px_name 0)))))) G.f_range) (pgx_name (i := 2) S__law_draws.nd (by rfl) (by first | exact Or.inl rfl | exact Or.inr rfl)) (psx_cons (psx_set (i := 3) S__law_draws.nd (by rfl) (by first | exact Or.inl rfl | exact Or.inr rfl) (px_abs G.f_abs (pax_last (px_ixA hr (px_name 0) (px_name 2)))))
    (psx_one (psx_if (ptx_cmp op_geA rule_cmp (px_name 3) (px_bin op_pow rule_pow px_int px_int) (by rfl)) (psx_one (psx_for (passes_of rfl) rfl (pix_range1 px_int G.f_range) (pgx_name (i := 4) S__law_draws.nd (by rfl) (by first | exact Or.inl rfl | exact Or.inr rfl)) (psx_one (psx_if (ptx_cmp op_gtA rule_cmp (px_name 3) px_int (by rfl)) (psx_cons (psx_expr (px_mutL 1 F.slot_list_append F.type_list_append mt_append rule_append (pax_cons (px_bin op_mod rule_mod (px_int' G.f_int (pax_last (px_name 3))) px_int).fz pax_nil)))
    (psx_one (psx_set (i := 3) S__law_draws.nd (by rfl) (by first | exact Or.inl rfl | exact Or.inr rfl) (px_bin op_fdiv rule_div (px_name 3) px_int)))) psx_nil)))) (psx_cons (psx_set (i := 5) S__law_draws.nd (by rfl) (by first | exact Or.inl rfl | exact Or.inr rfl) (px_bin op_mod rule_mod (px_int' G.f_int (pax_last (px_bin op_addAll rule_add (px_bin op_mul rule_mul (px_name 3) px_int) (px_bin op_mul rule_mul (px_bin op_addAll rule_add (px_name 2) px_int) px_int)))) px_int))
    (psx_cons (psx_set (i := 5) S__law_draws.nd (by rfl) (by first | exact Or.inl rfl | exact Or.inr rfl) (px_bin op_mod rule_mod (px_int' G.f_int (pax_last (px_bin op_addAll rule_add (px_bin op_addAll rule_add (px_bin op_mul rule_mul (px_name 5) px_int) (px_bin op_mul rule_mul px_int (px_name 2))) px_int))) px_int))
    (psx_cons (psx_expr (px_mutL 1 F.slot_list_append F.type_list_append mt_append rule_append (pax_cons (px_bin op_mod rule_mod (px_int' G.f_int (pax_last (px_name 5))) px_int).fz pax_nil)))
    (psx_one (psx_expr (px_mutL 1 F.slot_list_append F.type_list_append mt_append rule_append (pax_cons (px_bin op_mod rule_mod (px_int' G.f_int (pax_last (px_bin op_fdiv rule_div (px_name 5) px_int))) px_int).fz pax_nil)))))))))))
    (psx_one (psx_ret (px_name 1)))))
theorem ok__law_mix {w : World} {K : PySem.W.Frag} {mg : Str → Option Value} {base : Heap} (G : Gs mg) (D_ : DefAt K mg "_law_mix" st__law_mix P__law_mix)  : Callee prog w K mg base 1 "_law_mix" P__law_mix false false ew0 F__law_mix := by
  refine fn_okD (k := 0) D_ S__law_mix false false ew0 B__law_mix fun f cdv A outer s H E hr => ?_
  exact (psx_cons (psx_set (i := 3) S__law_mix.nd (by rfl) (by first | exact Or.inl rfl | exact Or.inr rfl) px_int)
    (psx_cons (psx_if (ptx_cmp op_gtA rule_cmp (px_len G.f_len (pax_last (px_name 0))) px_int (by rfl)) (psx_one (psx_set (i := 3) S__law_mix.nd (by rfl) (by first | exact Or.inl rfl | exact Or.inr rfl) (px_ixA hr (px_name 0) (px_bin op_mod rule_mod (px_int' G.f_int (pax_last (px_name 1))) (px_len G.f_len (pax_last (px_name 0))))))) psx_nil)
    (psx_cons (psx_if (ptx_cmp op_ltA rule_cmp (px_name 1) (px_len G.f_len (pax_last (px_name 0))) (by rfl)) (psx_one (psx_ret (px_bin op_mod rule_mod (px_int' G.f_int (pax_last (px_name 3))) (px_name 2)))) psx_nil)
    (psx_one (psx_ret (px_bin op_mod rule_mod (px_int' G.f_int (pax_last (px_bin op_fdiv rule_div (px_int' G.f_int (pax_last (px_bin op_addAll rule_add (px_bin op_mul rule_mul (px_name 3) px_int) (px_bin op_mul rule_mul (px_name 1) px_int)))) px_int))) (px_name 2)))))))
theorem ok_check_kind {w : World} {K : PySem.W.Frag} {mg : Str → Option Value} {base : Heap} (G : Gs mg) (D_ : DefAt K mg "check_kind" st_check_kind P_check_kind)  : Callee prog w K mg base 1 "check_kind" P_check_kind false false ew0 F_check_kind := by
  refine fn_okD (k := 0) D_ S_check_kind false false ew0 B_check_kind fun f cdv A outer s H E hr => ?_
  exact (psx_one (psx_if (pw_or' (ptx_cmp op_ltA rule_cmp (px_min rfl G.f_min (pax_last (px_name 0))) px_int (by rfl)) (pw_or1' (ptx_cmp op_gtA rule_cmp (px_sum rfl G.f_sum (pax_last (px_name 0))) (px_gi G.g_MOST_REST) (by rfl)))).pt (psx_one psx_bad) psx_nil))
theorem ok_step {w : World} {K : PySem.W.Frag} {mg : Str → Option Value} {base : Heap} (G : Gs mg) (D_ : DefAt K mg "step" st_step P_step)  : Callee prog w K mg base 1 "step" P_step false false ew0 F_step := by
  refine fn_okD (k := 0) D_ S_step false false ew0 B_step fun f cdv A outer s H E hr => ?_
  exact (psx_cons (psx_asg (px_name 0) (pgx_tup rfl (pgsx_cons (pgx_name (i := 3) S_step.nd (by rfl) (by first | exact Or.inl rfl | exact Or.inr rfl)) (pgsx_cons (pgx_name (i := 4) S_step.nd (by rfl) (by first | exact Or.inl rfl | exact Or.inr rfl)) (pgsx_cons (pgx_name (i := 5) S_step.nd (by rfl) (by first | exact Or.inl rfl | exact Or.inr rfl)) pgsx_nil)))))
    (psx_cons (psx_if (pw_or' (ptx_cmp (op_eqH hr) rule_eq (px_ixA hr (px_name 3) (px_mtS F.slot_str_index F.type_str_index mt_sindex rule_sindex (px_gs G.g_SIGNS) (pax_last (px_name 1)))) px_int (by rfl)) (pw_or1' (pw_and' (ptx_cmp (op_eqH hr) rule_eq (px_name 1) px_str (by rfl)) (pw_and1' (ptx_cmp (op_neH hr) rule_ne (px_name 4) px_int (by rfl)))).pt)).pt (psx_one (psx_ret px_non)) psx_nil)
    (psx_cons (psx_set (i := 6) S_step.nd (by rfl) (by first | exact Or.inl rfl | exact Or.inr rfl) (px_list G.f_list (pax_last (px_name 3))))
    (psx_cons (psx_put 6 (set_all hr) rule_setA (px_mtS F.slot_str_index F.type_str_index mt_sindex rule_sindex (px_gs G.g_SIGNS) (pax_last (px_name 1))) (px_bin op_sub rule_sub (px_ixA hr (px_name 6) (px_mtS F.slot_str_index F.type_str_index mt_sindex rule_sindex (px_gs G.g_SIGNS) (pax_last (px_name 1)))) px_int))
    (psx_cons (psx_if (ptx_cmp (op_eqH hr) rule_eq (px_name 1) px_str (by rfl)) (psx_cons (psx_if (pw_and' (ptx_cmp (op_eqH hr) rule_eq (px_name 4) px_int (by rfl)) (pw_and1' (ptx_cmp (op_eqH hr) rule_eq (px_ixA hr (px_name 3) (px_mtS F.slot_str_index F.type_str_index mt_sindex rule_sindex (px_gs G.g_SIGNS) (pax_last px_str))) px_int (by rfl)))).pt (psx_one (psx_ret px_non)) psx_nil)
    (psx_one (psx_set (i := 4) S_step.nd (by rfl) (by first | exact Or.inl rfl | exact Or.inr rfl) (px_bin op_addAll rule_add (px_name 4) px_int)))) psx_nil)
    (psx_cons (psx_if (ptx_cmp (op_eqH hr) rule_eq (px_name 1) px_str (by rfl)) (psx_one (psx_set (i := 5) S_step.nd (by rfl) (by first | exact Or.inl rfl | exact Or.inr rfl) (px_bin op_addAll rule_add (px_name 5) (px_if (ptx_cmp (op_eqH hr) rule_eq (px_bin op_mod rule_mod (px_name 2) px_int) px_int (by rfl)) px_int (px_un un_neg rule_neg px_int))))) psx_nil)
    (psx_one (psx_ret (px_tup (pax_cons (px_tuple G.f_tuple (pax_last (px_name 6))) (pax_cons (px_name 4) (pax_last (px_name 5)))))))))))))
theorem ok_ways_from {w : World} {K : PySem.W.Frag} {mg : Str → Option Value} {base : Heap} (G : Gs mg) (D_ : DefAt K mg "ways_from" st_ways_from P_ways_from) (C_step : Callee prog w K mg base 1 "step" P_step false false ew0 (F_step)) : ∀ n : Nat, Callee prog w K mg base (2 + n) "ways_from" P_ways_from true false ew0 (F_ways_from n)
  | 0 => by
    obtain ⟨f, fd, F, hm, hbi⟩ := D_.ex
    refine ⟨f, fd, ⟨fun vs H Q E h => ?_, fun A outer s H args us vs Q E hr e0 ha hv h => ?_⟩, hm, F.kp, hbi, fdOf F⟩
    all_goals (obtain ⟨_, _, _, _, _, _, h⟩ := h; exact h.elim)
  | n + 1 => by
    have Crec := ok_ways_from G D_ C_step n
    refine (fn_okD (k := 2 + n) D_ S_ways_from true false ew0 (B_ways_from (F_ways_from n)) fun f cdv A outer s H E hrec => ?_).mono (by omega)
    have hr := hrec.mono (j := 2) (by omega)
    exact (psx_cons (psx_if (ptx_cmp (op_eqH hr) rule_eq (px_sum rfl G.f_sum (pax_last (px_ixA hr (px_name 0) px_int))) px_int (by rfl)) (psx_one (psx_ret (px_if (ptx_cmp op_leA rule_cmp (px_abs G.f_abs (pax_last (px_ixA hr (px_name 0) px_int))) px_int (by rfl)) px_int px_int))) psx_nil)
    (psx_cons (psx_set (i := 3) S_ways_from.nd (by rfl) (by first | exact Or.inl rfl | exact Or.inr rfl) (px_tup (pax_cons (px_name 0) (pax_last (px_bin op_mod rule_mod (px_name 1) px_int)))))
    (psx_cons (psx_if (ptx_cmp (op_ninH hr) rule_ninA (px_name 3) (px_name 2) (by rfl)) (psx_cons (psx_set (i := 4) S_ways_from.nd (by rfl) (by first | exact Or.inl rfl | exact Or.inr rfl) px_int)
    (psx_cons (psx_for (passes_of rfl) rfl (pix_seq (px_gs G.g_SIGNS)) (pgx_name (i := 5) S_ways_from.nd (by rfl) (by first | exact Or.inl rfl | exact Or.inr rfl)) (psx_cons (psx_set (i := 6) S_ways_from.nd (by rfl) (by first | exact Or.inl rfl | exact Or.inr rfl) (px_c C_step (hr.mono (by decide)) (pax_cons (px_name 0).fz (pax_cons (px_name 5).fz (pax_cons (px_name 1).fz pax_nil)))))
    (psx_one (psx_if (ptx_cmp op_isnA rule_isn (px_name 6) px_non (by rfl)) (psx_one (psx_set (i := 4) S_ways_from.nd (by rfl) (by first | exact Or.inl rfl | exact Or.inr rfl) (px_bin op_addAll rule_add (px_name 4) (px_cIo Crec hrec (pax_cons (px_name 6) (pax_cons (px_bin op_addAll rule_add (px_name 1) px_int) (pax_last (px_name 2)))))))) psx_nil))))
    (psx_one (psx_put 2 (set_all hr) rule_setA (px_name 3) (px_name 4))))) psx_nil)
    (psx_one (psx_ret (px_ixA hr (px_name 2) (px_name 3)))))))
theorem ok_stock_of {w : World} {K : PySem.W.Frag} {mg : Str → Option Value} {base : Heap} (G : Gs mg) (D_ : DefAt K mg "stock_of" st_stock_of P_stock_of)  : Callee prog w K mg base 1 "stock_of" P_stock_of false false ew0 F_stock_of := by
  refine fn_okD (k := 0) D_ S_stock_of false false ew0 B_stock_of fun f cdv A outer s H E hr => ?_
  exact (psx_cons (psx_asg (px_name 0) (pgx_tup rfl (pgsx_cons (pgx_name (i := 1) S_stock_of.nd (by rfl) (by first | exact Or.inl rfl | exact Or.inr rfl)) (pgsx_cons (pgx_name (i := 2) S_stock_of.nd (by rfl) (by first | exact Or.inl rfl | exact Or.inr rfl)) (pgsx_cons (pgx_name (i := 3) S_stock_of.nd (by rfl) (by first | exact Or.inl rfl | exact Or.inr rfl)) pgsx_nil)))))
    (psx_one (psx_ret (px_dict (pdx_cons px_str (px_name 1) (pdx_cons px_str px_int (pdx_cons px_str (px_name 2) (pdx_cons px_str (px_name 3) (pdx_cons px_str px_int pdx_nil)))))))))
theorem ok_first_state {w : World} {K : PySem.W.Frag} {mg : Str → Option Value} {base : Heap} (G : Gs mg) (D_ : DefAt K mg "first_state" st_first_state P_first_state) (C_stock_of : Callee prog w K mg base 1 "stock_of" P_stock_of false false ew0 (F_stock_of)) : Callee prog w K mg base 2 "first_state" P_first_state false false ew0 F_first_state := by
  refine fn_okD (k := 1) D_ S_first_state false false ew0 B_first_state fun f cdv A outer s H E hr => ?_
  exact (psx_cons (psx_set (i := 1) S_first_state.nd (by rfl) (by first | exact Or.inl rfl | exact Or.inr rfl) (px_c C_stock_of (hr.mono (by decide)) (pax_cons (px_name 0).fz pax_nil)))
    (psx_one (psx_ret (px_tup (pax_cons (px_tuple G.f_tuple (pax_last (px_lc [("sign", 2)] rfl S_first_state.nd (pix_seq (px_gs G.g_SIGNS)) (blkOk_by (show blkC N_first_state (defScope st_first_state) _ _ = true from by decide +kernel)) (by decide) (by decide) (fun s H C cl fp => (pgx_name (i := 2) S_first_state.nd (by rfl) (by first | exact Or.inl rfl | exact Or.inr rfl))) (fun s H C cl fp => ptsx_nil) (fun s H C cl fp => (px_ixA hr (px_name 1) (px_name 2)))))) (pax_cons px_int (pax_last px_int)))))))
theorem ok_count {w : World} {K : PySem.W.Frag} {mg : Str → Option Value} {base : Heap} (G : Gs mg) (D_ : DefAt K mg "count" st_count P_count) (C_check_kind : Callee prog w K mg base 1 "check_kind" P_check_kind false false ew0 (F_check_kind)) (C_ways_from : Callee prog w K mg base 14 "ways_from" P_ways_from true false ew0 (F_ways_from 12)) (C_first_state : Callee prog w K mg base 2 "first_state" P_first_state false false ew0 (F_first_state)) : Callee prog w K mg base 15 "count" P_count false false ew0 F_count := by
  refine fn_okD (k := 14) D_ S_count false false ew0 B_count fun f cdv A outer s H E hr => ?_
  exact (psx_cons (psx_expr (px_c C_check_kind (hr.mono (by decide)) (pax_cons (px_name 0).fz pax_nil)))
    (psx_one (psx_ret (px_cIo C_ways_from (hr.mono (by decide)) (pax_cons (px_c C_first_state (hr.mono (by decide)) (pax_cons (px_name 0).fz pax_nil)) (pax_cons px_int (pax_last px_dict0)))))))
theorem ok_row_of {w : World} {K : PySem.W.Frag} {mg : Str → Option Value} {base : Heap} (G : Gs mg) (D_ : DefAt K mg "row_of" st_row_of P_row_of) (C_check_kind : Callee prog w K mg base 1 "check_kind" P_check_kind false false ew0 (F_check_kind)) (C_first_state : Callee prog w K mg base 2 "first_state" P_first_state false false ew0 (F_first_state)) (C_ways_from : Callee prog w K mg base 14 "ways_from" P_ways_from true false ew0 (F_ways_from 12)) (C_step : Callee prog w K mg base 1 "step" P_step false false ew0 (F_step)) : Callee prog w K mg base 15 "row_of" P_row_of false false ew0 F_row_of := by
  refine fn_okD (k := 14) D_ S_row_of false false ew0 B_row_of fun f cdv A outer s H E hr => ?_
  exact (psx_cons (psx_expr (px_c C_check_kind (hr.mono (by decide)) (pax_cons (px_name 0).fz pax_nil)))
    (psx_cons (psx_set (i := 2) S_row_of.nd (by rfl) (by first | exact Or.inl rfl | exact Or.inr rfl) px_dict0)
    (psx_cons (psx_set (i := 3) S_row_of.nd (by rfl) (by first | exact Or.inl rfl | exact Or.inr rfl) (px_c C_first_state (hr.mono (by decide)) (pax_cons (px_name 0).fz pax_nil)))
    (psx_cons (psx_if (ptx_not (ptx_chain op_leA rule_cmp op_ltA rule_cmp px_int (px_name 1) (px_cIo C_ways_from (hr.mono (by decide)) (pax_cons (px_name 3) (pax_cons px_int (pax_last (px_name 2))))))) (psx_one psx_bad) psx_nil)
    (psx_cons (psx_set (i := 4) S_row_of.nd (by rfl) (by first | exact Or.inl rfl | exact Or.inr rfl) px_str)
    (psx_cons (psx_for (passes_of rfl) rfl (pix_range1 (px_bin op_addAll rule_add (px_sum rfl G.f_sum (pax_last (px_name 0))) px_int) G.f_range) (pgx_name (i := 5) S_row_of.nd (by rfl) (by first | exact Or.inl rfl | exact Or.inr rfl)) (psx_cons (psx_set (i := 6) S_row_of.nd (by rfl) (by first | exact Or.inl rfl | exact Or.inr rfl) (px_name 1))
    (psx_cons (psx_set (i := 7) S_row_of.nd (by rfl) (by first | exact Or.inl rfl | exact Or.inr rfl) px_non)
    (psx_cons (psx_for (passes_of rfl) rfl (pix_seq (px_gs G.g_SIGNS)) (pgx_name (i := 8) S_row_of.nd (by rfl) (by first | exact Or.inl rfl | exact Or.inr rfl)) (psx_cons (psx_set (i := 9) S_row_of.nd (by rfl) (by first | exact Or.inl rfl | exact Or.inr rfl) (px_c C_step (hr.mono (by decide)) (pax_cons (px_name 3).fz (pax_cons (px_name 8).fz (pax_cons (px_name 5).fz pax_nil)))))
    (psx_cons (psx_set (i := 10) S_row_of.nd (by rfl) (by first | exact Or.inl rfl | exact Or.inr rfl) (px_if (ptx_cmp op_isA rule_is (px_name 9) px_non (by rfl)) px_int (px_cIo C_ways_from (hr.mono (by decide)) (pax_cons (px_name 9) (pax_cons (px_bin op_addAll rule_add (px_name 5) px_int) (pax_last (px_name 2)))))))
    (psx_cons (psx_if (pw_and' (ptx_cmp op_isA rule_is (px_name 7) px_non (by rfl)) (pw_and1' (ptx_cmp op_ltA rule_cmp (px_name 6) (px_name 10) (by rfl)))).pt (psx_one (psx_set (i := 7) S_row_of.nd (by rfl) (by first | exact Or.inl rfl | exact Or.inr rfl) (px_tup (pax_cons (px_name 8) (pax_cons (px_name 9) (pax_last (px_name 6))))))) psx_nil)
    (psx_one (psx_set (i := 6) S_row_of.nd (by rfl) (by first | exact Or.inl rfl | exact Or.inr rfl) (px_bin op_sub rule_sub (px_name 6) (px_name 10))))))))
    (psx_cons (psx_set (i := 4) S_row_of.nd (by rfl) (by first | exact Or.inl rfl | exact Or.inr rfl) (px_bin op_addAll rule_add (px_name 4) (px_ixA hr (px_name 7) px_int)))
    (psx_cons (psx_set (i := 3) S_row_of.nd (by rfl) (by first | exact Or.inl rfl | exact Or.inr rfl) (px_ixA hr (px_name 7) px_int))
    (psx_one (psx_set (i := 1) S_row_of.nd (by rfl) (by first | exact Or.inl rfl | exact Or.inr rfl) (px_ixA hr (px_name 7) px_int)))))))))
    (psx_one (psx_ret (px_name 4)))))))))
theorem ok_fits {w : World} {K : PySem.W.Frag} {mg : Str → Option Value} {base : Heap} (G : Gs mg) (D_ : DefAt K mg "fits" st_fits P_fits) (C_check_kind : Callee prog w K mg base 1 "check_kind" P_check_kind false false ew0 (F_check_kind)) (C_stock_of : Callee prog w K mg base 1 "stock_of" P_stock_of false false ew0 (F_stock_of)) : Callee prog w K mg base 2 "fits" P_fits false false ew0 F_fits := by
  refine fn_okD (k := 1) D_ S_fits false false ew0 B_fits fun f cdv A outer s H E hr => ?_
  exact (psx_cons (psx_expr (px_c C_check_kind (hr.mono (by decide)) (pax_cons (px_name 0).fz pax_nil)))
    (psx_cons (psx_set (i := 2) S_fits.nd (by rfl) (by first | exact Or.inl rfl | exact Or.inr rfl) (px_c C_stock_of (hr.mono (by decide)) (pax_cons (px_name 0).fz pax_nil)))
    (psx_cons (psx_if (pw_or' (ptx_cmp (op_neH hr) rule_ne (px_len G.f_len (pax_last (px_name 1))) (px_bin op_addAll rule_add (px_sum rfl G.f_sum (pax_last (px_name 0))) px_int) (by rfl)) (pw_or1' (ptx_tru (px_any rfl G.f_any (pax_last (px_lc [("sign", 4)] rfl S_fits.nd (pix_seq (px_gs G.g_SIGNS)) (blkOk_by (show blkC N_fits (defScope st_fits) _ _ = true from by decide +kernel)) (by decide) (by decide) (fun s H C cl fp => (pgx_name (i := 4) S_fits.nd (by rfl) (by first | exact Or.inl rfl | exact Or.inr rfl))) (fun s H C cl fp => ptsx_nil) (fun s H C cl fp => (px_cmp (op_neH hr) rule_ne (px_mtS F.slot_str_count F.type_str_count mt_count rule_scount (px_name 1) (pax_last (px_name 4))) (px_ixA hr (px_name 2) (px_name 4)) (by rfl))))))))).pt (psx_one (psx_ret px_bl)) psx_nil)
    (psx_cons (psx_set (i := 3) S_fits.nd (by rfl) (by first | exact Or.inl rfl | exact Or.inr rfl) (px_mtS F.slot_str_index F.type_str_index mt_sindex rule_sindex (px_name 1) (pax_last px_str)))
    (psx_cons (psx_if (pw_or' (ptx_cmp (op_ninH hr) rule_ninA px_str (px_sl (px_name 1) pox_none (pox_some (px_name 3))) (by rfl)) (pw_or1' (ptx_cmp (op_ninH hr) rule_ninA px_str (px_sl (px_name 1) (pox_some (px_name 3)) pox_none) (by rfl)))).pt (psx_one (psx_ret px_bl)) psx_nil)
    (psx_one (psx_ret (px_cmp op_leA rule_cmp (px_abs G.f_abs (pax_last (px_bin op_sub rule_sub (px_mtS F.slot_str_count F.type_str_count mt_count rule_scount (px_step (px_name 1) pox_none pox_none (pox_some px_int)) (pax_last px_str)) (px_mtS F.slot_str_count F.type_str_count mt_count rule_scount (px_step (px_name 1) (pox_some px_int) pox_none (pox_some px_int)) (pax_last px_str))))) px_int (by rfl)))))))))
theorem ok_number_of {w : World} {K : PySem.W.Frag} {mg : Str → Option Value} {base : Heap} (G : Gs mg) (D_ : DefAt K mg "number_of" st_number_of P_number_of) (C_fits : Callee prog w K mg base 2 "fits" P_fits false false ew0 (F_fits)) (C_first_state : Callee prog w K mg base 2 "first_state" P_first_state false false ew0 (F_first_state)) (C_step : Callee prog w K mg base 1 "step" P_step false false ew0 (F_step)) (C_ways_from : Callee prog w K mg base 14 "ways_from" P_ways_from true false ew0 (F_ways_from 12)) : Callee prog w K mg base 15 "number_of" P_number_of false false ew0 F_number_of := by
  refine fn_okD (k := 14) D_ S_number_of false false ew0 B_number_of fun f cdv A outer s H E hr => ?_
  exact (psx_cons (psx_if (ptx_not (ptx_tru (px_c C_fits (hr.mono (by decide)) (pax_cons (px_name 0).fz (pax_cons (px_name 1).fz pax_nil))))) (psx_one psx_bad) psx_nil)
    (psx_cons (psx_set (i := 2) S_number_of.nd (by rfl) (by first | exact Or.inl rfl | exact Or.inr rfl) px_dict0)
    (psx_cons (psx_set (i := 3) S_number_of.nd (by rfl) (by first | exact Or.inl rfl | exact Or.inr rfl) (px_c C_first_state (hr.mono (by decide)) (pax_cons (px_name 0).fz pax_nil)))
    (psx_cons (psx_set (i := 4) S_number_of.nd (by rfl) (by first | exact Or.inl rfl | exact Or.inr rfl) px_int)
    (psx_cons (psx_for (passes_of rfl) rfl (pix_enum (px_name 1) G.f_enumerate) (pgx_tup rfl (pgsx_cons (pgx_name (i := 5) S_number_of.nd (by rfl) (by first | exact Or.inl rfl | exact Or.inr rfl)) (pgsx_cons (pgx_name (i := 6) S_number_of.nd (by rfl) (by first | exact Or.inl rfl | exact Or.inr rfl)) pgsx_nil))) (psx_cons (psx_for (passes_of rfl) rfl (pix_seq (px_sl (px_gs G.g_SIGNS) pox_none (pox_some (px_mtS F.slot_str_index F.type_str_index mt_sindex rule_sindex (px_gs G.g_SIGNS) (pax_last (px_name 6)))))) (pgx_name (i := 7) S_number_of.nd (by rfl) (by first | exact Or.inl rfl | exact Or.inr rfl)) (psx_cons (psx_set (i := 8) S_number_of.nd (by rfl) (by first | exact Or.inl rfl | exact Or.inr rfl) (px_c C_step (hr.mono (by decide)) (pax_cons (px_name 3).fz (pax_cons (px_name 7).fz (pax_cons (px_name 5).fz pax_nil)))))
    (psx_one (psx_set (i := 4) S_number_of.nd (by rfl) (by first | exact Or.inl rfl | exact Or.inr rfl) (px_bin op_addAll rule_add (px_name 4) (px_if (ptx_cmp op_isA rule_is (px_name 8) px_non (by rfl)) px_int (px_cIo C_ways_from (hr.mono (by decide)) (pax_cons (px_name 8) (pax_cons (px_bin op_addAll rule_add (px_name 5) px_int) (pax_last (px_name 2)))))))))))
    (psx_one (psx_set (i := 3) S_number_of.nd (by rfl) (by first | exact Or.inl rfl | exact Or.inr rfl) (px_c C_step (hr.mono (by decide)) (pax_cons (px_name 3).fz (pax_cons (px_name 6).fz (pax_cons (px_name 5).fz pax_nil))))))))
    (psx_one (psx_ret (px_name 4))))))))
theorem ok_own_mirrored {w : World} {K : PySem.W.Frag} {mg : Str → Option Value} {base : Heap} (G : Gs mg) (D_ : DefAt K mg "own_mirrored" st_own_mirrored P_own_mirrored) (C_count : Callee prog w K mg base 15 "count" P_count false false ew0 (F_count)) (C_row_of : Callee prog w K mg base 15 "row_of" P_row_of false false ew0 (F_row_of)) : Callee prog w K mg base 16 "own_mirrored" P_own_mirrored false false ew0 F_own_mirrored := by
  refine fn_okD (k := 15) D_ S_own_mirrored false false ew0 B_own_mirrored fun f cdv A outer s H E hr => ?_
  exact (psx_cons (psx_setLc [("number", 2)] rfl S_own_mirrored.nd (by rfl) (by rfl) (sw_true rfl rfl rfl rfl) (pix_range1 (px_c C_count (hr.mono (by decide)) (pax_cons (px_name 0).fz pax_nil)) G.f_range) (blkOk_by (show blkC N_own_mirrored (defScope st_own_mirrored) _ _ = true from by decide +kernel)) (by decide) (by decide) (fun s H C cl fp => (pgx_name (i := 2) S_own_mirrored.nd (by rfl) (by first | exact Or.inl rfl | exact Or.inr rfl))) (fun s H C cl fp => ptsx_nil) (fun s H C cl fp => (px_c C_row_of (hr.mono (by decide)) (pax_cons (px_name 0).fz (pax_cons (px_name 2).fz pax_nil)))))
    (psx_one (psx_ret (px_lc [("row", 3)] rfl S_own_mirrored.nd (pix_seq (px_name 1)) (blkOk_by (show blkC N_own_mirrored (defScope st_own_mirrored) _ _ = true from by decide +kernel)) (by decide) (by decide) (fun s H C cl fp => (pgx_name (i := 3) S_own_mirrored.nd (by rfl) (by first | exact Or.inl rfl | exact Or.inr rfl))) (fun s H C cl fp => (ptsx_one (ptx_cmp (op_eqH hr) rule_eq (px_name 3) (px_step (px_name 3) pox_none pox_none (pox_some (px_un un_neg rule_neg px_int))) (by rfl)))) (fun s H C cl fp => (px_name 3))))))
theorem ok__law_ways {w : World} {K : PySem.W.Frag} {mg : Str → Option Value} {base : Heap} (G : Gs mg) (D_ : DefAt K mg "_law_ways" st__law_ways P__law_ways)  : Callee prog w K mg base 1 "_law_ways" P__law_ways false false ew0 F__law_ways := by
  refine fn_okD (k := 0) D_ S__law_ways false false ew0 B__law_ways fun f cdv A outer s H E hr => ?_
  exact (psx_cons (psx_set (i := 2) S__law_ways.nd (by rfl) (by first | exact Or.inl rfl | exact Or.inr rfl) (px_lst (pax_last px_int)))
    (psx_cons (psx_for (passes_of rfl) rfl (pix_range1 (px_name 0) G.f_range) (pgx_name (i := 3) S__law_ways.nd (by rfl) (by first | exact Or.inl rfl | exact Or.inr rfl)) (psx_one (psx_set (i := 2) S__law_ways.nd (by rfl) (by first | exact Or.inl rfl | exact Or.inr rfl) (px_bin op_addAll rule_add (px_bin op_addAll rule_add (px_lst (pax_last px_int)) (px_lc [("t", 4)] rfl S__law_ways.nd (pix_range2 px_int (px_len G.f_len (pax_last (px_name 2))) G.f_range) (blkOk_by (show blkC N__law_ways (defScope st__law_ways) _ _ = true from by decide +kernel)) (by decide) (by decide) (fun s H C cl fp => (pgx_name (i := 4) S__law_ways.nd (by rfl) (by first | exact Or.inl rfl | exact Or.inr rfl))) (fun s H C cl fp => ptsx_nil) (fun s H C cl fp => (px_bin op_addAll rule_add (px_ixA hr (px_name 2) (px_bin op_sub rule_sub (px_name 4) px_int)) (px_ixA hr (px_name 2) (px_name 4)))))) (px_lst (pax_last px_int))))))
    (psx_cons (psx_if (ptx_not (ptx_chain op_leA rule_cmp op_leA rule_cmp px_int (px_name 1) (px_name 0))) (psx_one (psx_ret px_int)) psx_nil)
    (psx_one (psx_ret (px_ixA hr (px_name 2) (px_name 1)))))))
theorem ok__law_count {w : World} {K : PySem.W.Frag} {mg : Str → Option Value} {base : Heap} (G : Gs mg) (D_ : DefAt K mg "_law_count" st__law_count P__law_count) (C__law_ways : Callee prog w K mg base 1 "_law_ways" P__law_ways false false ew0 (F__law_ways)) : Callee prog w K mg base 2 "_law_count" P__law_count false false ew0 F__law_count := by
  refine fn_okD (k := 1) D_ S__law_count false false ew0 B__law_count fun f cdv A outer s H E hr => ?_
  exact (psx_cons (psx_asg (px_name 0) (pgx_tup rfl (pgsx_cons (pgx_name (i := 1) S__law_count.nd (by rfl) (by first | exact Or.inl rfl | exact Or.inr rfl)) (pgsx_cons (pgx_name (i := 2) S__law_count.nd (by rfl) (by first | exact Or.inl rfl | exact Or.inr rfl)) (pgsx_cons (pgx_name (i := 3) S__law_count.nd (by rfl) (by first | exact Or.inl rfl | exact Or.inr rfl)) pgsx_nil)))))
    (psx_cons (psx_set (i := 4) S__law_count.nd (by rfl) (by first | exact Or.inl rfl | exact Or.inr rfl) (px_bin op_addAll rule_add (px_sum rfl G.f_sum (pax_last (px_name 0))) px_int))
    (psx_cons (psx_set (i := 5) S__law_count.nd (by rfl) (by first | exact Or.inl rfl | exact Or.inr rfl) (px_bin op_fdiv rule_div (px_bin op_addAll rule_add (px_name 4) px_int) px_int))
    (psx_cons (psx_set (i := 6) S__law_count.nd (by rfl) (by first | exact Or.inl rfl | exact Or.inr rfl) (px_bin op_fdiv rule_div (px_name 1) px_int))
    (psx_cons (psx_set (i := 7) S__law_count.nd (by rfl) (by first | exact Or.inl rfl | exact Or.inr rfl) (px_bin op_mul rule_mul (px_c C__law_ways (hr.mono (by decide)) (pax_cons (px_name 5).fz (pax_cons (px_name 6).fz pax_nil))) (px_c C__law_ways (hr.mono (by decide)) (pax_cons (px_bin op_sub rule_sub (px_name 4) (px_name 5)).fz (pax_cons (px_bin op_sub rule_sub (px_name 1) (px_name 6)).fz pax_nil)))))
    (psx_cons (psx_if (ptx_cmp (op_neH hr) rule_ne (px_name 1) (px_bin op_mul rule_mul px_int (px_name 6)) (by rfl)) (psx_one (psx_set (i := 7) S__law_count.nd (by rfl) (by first | exact Or.inl rfl | exact Or.inr rfl) (px_bin op_addAll rule_add (px_name 7) (px_bin op_mul rule_mul (px_c C__law_ways (hr.mono (by decide)) (pax_cons (px_name 5).fz (pax_cons (px_bin op_addAll rule_add (px_name 6) px_int).fz pax_nil))) (px_c C__law_ways (hr.mono (by decide)) (pax_cons (px_bin op_sub rule_sub (px_name 4) (px_name 5)).fz (pax_cons (px_name 6).fz pax_nil))))))) psx_nil)
    (psx_one (psx_ret (px_bin op_mul rule_mul (px_bin op_mul rule_mul (px_name 7) (px_c C__law_ways (hr.mono (by decide)) (pax_cons (px_bin op_sub rule_sub (px_name 4) (px_name 1)).fz (pax_cons px_int.fz pax_nil)))) (px_c C__law_ways (hr.mono (by decide)) (pax_cons (px_bin op_addAll rule_add (px_name 2) (px_name 3)).fz (pax_cons (px_name 2).fz pax_nil))))))))))))
theorem ok_law {w : World} {K : PySem.W.Frag} {mg : Str → Option Value} {base : Heap} (G : Gs mg) (D_ : DefAt K mg "law" st_law P_law) (C__law_draws : Callee prog w K mg base 1 "_law_draws" P__law_draws false false ew0 (F__law_draws)) (C__law_mix : Callee prog w K mg base 1 "_law_mix" P__law_mix false false ew0 (F__law_mix)) (C_count : Callee prog w K mg base 15 "count" P_count false false ew0 (F_count)) (C__law_count : Callee prog w K mg base 2 "_law_count" P__law_count false false ew0 (F__law_count)) (C_row_of : Callee prog w K mg base 15 "row_of" P_row_of false false ew0 (F_row_of)) (C_number_of : Callee prog w K mg base 15 "number_of" P_number_of false false ew0 (F_number_of)) (C_fits : Callee prog w K mg base 2 "fits" P_fits false false ew0 (F_fits)) (C_own_mirrored : Callee prog w K mg base 16 "own_mirrored" P_own_mirrored false false ew0 (F_own_mirrored)) : Callee prog w K mg base 17 "law" P_law false false ew0 F_law := by
  refine fn_okD (k := 16) D_ S_law false false ew0 B_law fun f cdv A outer s H E hr => ?_
  exact (psx_cons (psx_set (i := 1) S_law.nd (by rfl) (by first | exact Or.inl rfl | exact Or.inr rfl) (px_c C__law_draws (hr.mono (by decide)) (pax_cons (px_name 0).fz pax_nil)))
    (psx_cons (psx_for (passes_of rfl) rfl (pix_range1 px_int G.f_range) (pgx_name (i := 2) S_law.nd (by rfl) (by first | exact Or.inl rfl | exact Or.inr rfl)) (psx_cons (psx_set (i := 3) S_law.nd (by rfl) (by first | exact Or.inl rfl | exact Or.inr rfl) (px_lst pax_nil))
    (psx_cons (psx_for (passes_of rfl) rfl (pix_range1 px_int G.f_range) (pgx_name (i := 4) S_law.nd (by rfl) (by first | exact Or.inl rfl | exact Or.inr rfl)) (psx_one (psx_expr (px_mutL 3 F.slot_list_append F.type_list_append mt_append rule_append (pax_cons (px_c C__law_mix (hr.mono (by decide)) (pax_cons (px_name 1).fz (pax_cons (px_bin op_addAll rule_add (px_bin op_mul rule_mul px_int (px_name 2)) (px_name 4)).fz (pax_cons (px_bin op_sub rule_sub px_int (px_sum rfl G.f_sum (pax_last (px_name 3)))).fz pax_nil)))).fz pax_nil)))))
    (psx_cons (psx_set (i := 5) S_law.nd (by rfl) (by first | exact Or.inl rfl | exact Or.inr rfl) (px_c C__law_mix (hr.mono (by decide)) (pax_cons (px_name 1).fz (pax_cons (px_bin op_addAll rule_add (px_bin op_mul rule_mul px_int (px_name 2)) px_int).fz (pax_cons px_int.fz pax_nil)))))
    (psx_cons (psx_set (i := 3) S_law.nd (by rfl) (by first | exact Or.inl rfl | exact Or.inr rfl) (px_tuple G.f_tuple (pax_last (px_bin op_addAll rule_add (px_sl (px_name 3) (pox_some (px_name 5)) pox_none) (px_sl (px_name 3) pox_none (pox_some (px_name 5)))))))
    (psx_cons (psx_set (i := 6) S_law.nd (by rfl) (by first | exact Or.inl rfl | exact Or.inr rfl) (px_c C_count (hr.mono (by decide)) (pax_cons (px_name 3).fz pax_nil)))
    (psx_cons (psx_if (pw_or' (ptx_cmp (op_neH hr) rule_ne (px_repr G.f_repr (pax_last (px_name 6))) (px_repr G.f_repr (pax_last (px_c C__law_count (hr.mono (by decide)) (pax_cons (px_name 3).fz pax_nil)))) (by rfl)) (pw_or1' (ptx_cmp (op_neH hr) rule_ne (px_c C_count (hr.mono (by decide)) (pax_cons (px_tup (pax_cons (px_ixA hr (px_name 3) px_int) (pax_cons (px_ixA hr (px_name 3) px_int) (pax_last (px_ixA hr (px_name 3) px_int))))).fz pax_nil)) (px_name 6) (by rfl)))).pt (psx_one (psx_ret px_bl)) psx_nil)
    (psx_cons (psx_if (ptx_cmp op_gtA rule_cmp (px_name 6) px_int (by rfl)) (psx_cons (psx_set (i := 7) S_law.nd (by rfl) (by first | exact Or.inl rfl | exact Or.inr rfl) (px_c C__law_mix (hr.mono (by decide)) (pax_cons (px_name 1).fz (pax_cons (px_bin op_addAll rule_add px_int (px_name 2)).fz (pax_cons (px_name 6).fz pax_nil)))))
    (psx_cons (psx_set (i := 8) S_law.nd (by rfl) (by first | exact Or.inl rfl | exact Or.inr rfl) (px_c C_row_of (hr.mono (by decide)) (pax_cons (px_name 3).fz (pax_cons (px_name 7).fz pax_nil))))
    (psx_cons (psx_set (i := 9) S_law.nd (by rfl) (by first | exact Or.inl rfl | exact Or.inr rfl) (px_c C_row_of (hr.mono (by decide)) (pax_cons (px_name 3).fz (pax_cons (px_bin op_sub rule_sub (px_name 6) px_int).fz pax_nil))))
    (psx_cons (psx_if (pw_or' (ptx_cmp op_isnA rule_isn (px_c C_fits (hr.mono (by decide)) (pax_cons (px_name 3).fz (pax_cons (px_name 8).fz pax_nil))) px_bl (by rfl)) (pw_or' (ptx_cmp (op_neH hr) rule_ne (px_c C_number_of (hr.mono (by decide)) (pax_cons (px_name 3).fz (pax_cons (px_name 8).fz pax_nil))) (px_name 7) (by rfl)) (pw_or' (ptx_cmp op_gtA rule_cmp (px_c C_row_of (hr.mono (by decide)) (pax_cons (px_name 3).fz (pax_cons px_int.fz pax_nil))) (px_name 8) (by rfl)) (pw_or1' (ptx_cmp op_gtA rule_cmp (px_name 8) (px_name 9) (by rfl)))))).pt (psx_one (psx_ret px_bl)) psx_nil)
    (psx_cons (psx_if (pw_and' (ptx_cmp op_ltA rule_cmp (px_bin op_addAll rule_add (px_name 7) px_int) (px_name 6) (by rfl)) (pw_and1' (ptx_cmp op_leA rule_cmp (px_c C_row_of (hr.mono (by decide)) (pax_cons (px_name 3).fz (pax_cons (px_bin op_addAll rule_add (px_name 7) px_int).fz pax_nil))) (px_name 8) (by rfl)))).pt (psx_one (psx_ret px_bl)) psx_nil)
    (psx_cons (psx_set (i := 10) S_law.nd (by rfl) (by first | exact Or.inl rfl | exact Or.inr rfl) (px_c C_number_of (hr.mono (by decide)) (pax_cons (px_name 3).fz (pax_cons (px_step (px_name 8) pox_none pox_none (pox_some (px_un un_neg rule_neg px_int))).fz pax_nil))))
    (psx_one (psx_if (pw_or' (ptx_cmp (op_neH hr) rule_ne (px_c C_row_of (hr.mono (by decide)) (pax_cons (px_name 3).fz (pax_cons (px_name 10).fz pax_nil))) (px_step (px_name 8) pox_none pox_none (pox_some (px_un un_neg rule_neg px_int))) (by rfl)) (pw_or1' (ptx_cmp (op_neH hr) rule_ne (px_cmp (op_eqH hr) rule_eq (px_name 10) (px_name 7) (by rfl)) (px_cmp (op_eqH hr) rule_eq (px_name 8) (px_step (px_name 8) pox_none pox_none (pox_some (px_un un_neg rule_neg px_int))) (by rfl)) (by rfl)))).pt (psx_one (psx_ret px_bl)) psx_nil)))))))) psx_nil)
    (psx_one (psx_if (ptx_cmp op_ltA rule_cmp (px_sum rfl G.f_sum (pax_last (px_name 3))) px_int (by rfl)) (psx_cons (psx_set (i := 11) S_law.nd (by rfl) (by first | exact Or.inl rfl | exact Or.inr rfl) (px_c C_own_mirrored (hr.mono (by decide)) (pax_cons (px_name 3).fz pax_nil)))
    (psx_cons (psx_for (passes_of rfl) rfl (pix_seq (px_name 11)) (pgx_name (i := 8) S_law.nd (by rfl) (by first | exact Or.inl rfl | exact Or.inr rfl)) (psx_one (psx_if (pw_or' (ptx_cmp (op_neH hr) rule_ne (px_name 8) (px_step (px_name 8) pox_none pox_none (pox_some (px_un un_neg rule_neg px_int))) (by rfl)) (pw_or' (ptx_cmp (op_neH hr) rule_ne (px_len G.f_len (pax_last (px_name 8))) (px_bin op_addAll rule_add (px_sum rfl G.f_sum (pax_last (px_name 3))) px_int) (by rfl)) (pw_or' (ptx_cmp (op_neH hr) rule_ne (px_bin op_mod rule_mod (px_int' G.f_int (pax_last (px_len G.f_len (pax_last (px_name 8))))) px_int) px_int (by rfl)) (pw_or1' (ptx_cmp (op_neH hr) rule_ne (px_ixA hr (px_name 8) (px_bin op_fdiv rule_div (px_len G.f_len (pax_last (px_name 8))) px_int)) px_str (by rfl)))))).pt (psx_one (psx_ret px_bl)) psx_nil)))
    (psx_one (psx_if (ptx_cmp (op_neH hr) rule_ne (px_bin op_mod rule_mod (px_int' G.f_int (pax_last (px_bin op_sub rule_sub (px_name 6) (px_len G.f_len (pax_last (px_name 11)))))) px_int) px_int (by rfl)) (psx_one (psx_ret px_bl)) psx_nil)))) psx_nil))))))))))
    (psx_one (psx_ret (px_and (px_cmp (op_eqH hr) rule_eq (px_c C_count (hr.mono (by decide)) (pax_cons (px_tup (pax_cons px_int (pax_cons px_int (pax_last px_int)))).fz pax_nil)) px_int (by rfl)) (px_one (px_cmp (op_eqH hr) rule_eq (px_c C_row_of (hr.mono (by decide)) (pax_cons (px_tup (pax_cons px_int (pax_cons px_int (pax_last px_int)))).fz (pax_cons px_int.fz pax_nil))) px_str (by rfl))))))))
/-! ### the head -/
def d__law_draws : He.DefD := ⟨("_law_draws", none), "_law_draws", "_law_draws", defArgs st__law_draws, defBody st__law_draws, defScope st__law_draws, [], []⟩
def d__law_mix : He.DefD := ⟨("_law_mix", none), "_law_mix", "_law_mix", defArgs st__law_mix, defBody st__law_mix, defScope st__law_mix, [], []⟩
def d_check_kind : He.DefD := ⟨("check_kind", none), "check_kind", "check_kind", defArgs st_check_kind, defBody st_check_kind, defScope st_check_kind, [], []⟩
def d_step : He.DefD := ⟨("step", none), "step", "step", defArgs st_step, defBody st_step, defScope st_step, [], []⟩
def d_ways_from : He.DefD := ⟨("ways_from", none), "ways_from", "ways_from", defArgs st_ways_from, defBody st_ways_from, defScope st_ways_from, [], []⟩
def d_stock_of : He.DefD := ⟨("stock_of", none), "stock_of", "stock_of", defArgs st_stock_of, defBody st_stock_of, defScope st_stock_of, [], []⟩
def d_first_state : He.DefD := ⟨("first_state", none), "first_state", "first_state", defArgs st_first_state, defBody st_first_state, defScope st_first_state, [], []⟩
def d_count : He.DefD := ⟨("count", none), "count", "count", defArgs st_count, defBody st_count, defScope st_count, [], []⟩
def d_row_of : He.DefD := ⟨("row_of", none), "row_of", "row_of", defArgs st_row_of, defBody st_row_of, defScope st_row_of, [], []⟩
def d_fits : He.DefD := ⟨("fits", none), "fits", "fits", defArgs st_fits, defBody st_fits, defScope st_fits, [], []⟩
def d_number_of : He.DefD := ⟨("number_of", none), "number_of", "number_of", defArgs st_number_of, defBody st_number_of, defScope st_number_of, [], []⟩
def d_own_mirrored : He.DefD := ⟨("own_mirrored", none), "own_mirrored", "own_mirrored", defArgs st_own_mirrored, defBody st_own_mirrored, defScope st_own_mirrored, [], []⟩
def d__law_ways : He.DefD := ⟨("_law_ways", none), "_law_ways", "_law_ways", defArgs st__law_ways, defBody st__law_ways, defScope st__law_ways, [], []⟩
def d__law_count : He.DefD := ⟨("_law_count", none), "_law_count", "_law_count", defArgs st__law_count, defBody st__law_count, defScope st__law_count, [], []⟩
def d_law : He.DefD := ⟨("law", none), "law", "law", defArgs st_law, defBody st_law, defScope st_law, [], []⟩
def fns : List He.DefD := [d__law_draws, d__law_mix, d_check_kind, d_step, d_ways_from, d_stock_of, d_first_state, d_count, d_row_of, d_fits, d_number_of, d_own_mirrored, d__law_ways, d__law_count, d_law]
def fas : List He.Fa := [.glo "_law_draws", .glo "_law_mix", .glo "check_kind", .glo "step", .glo "ways_from", .glo "stock_of", .glo "first_state", .glo "count", .glo "row_of", .glo "fits", .glo "number_of", .glo "own_mirrored", .glo "_law_ways", .glo "_law_count", .glo "law", .free "abs", .free "any", .free "enumerate", .free "int", .free "len", .free "list", .free "min", .free "range", .free "repr", .free "sum", .free "tuple", .int "MOST_REST" 7, .str "SIGNS" "BKNQR"]
abbrev RowR : PySem.W.OpenRow := PySem.W.OpenLaw.row PySem.Challenge.rw_matestold_k77_whole_counts_of_first_rows
abbrev hook : PySem.W.Hook := He.hookD 4 fas fns
def obs (s : PySem.W.SharedT) : He.AlD := He.obsDG 4 fas fns (HandSHeadRun.getT s)
theorem obs_eq (s : PySem.W.SharedT) : obs s = hook.obs s.abs := He.obsDG_eq (HandSHeadRun.getT_eq s)
def names0 : List Str := ["ChessError", "OutOfRange", "BadKind", "BadRow", "MOST_REST", "SIGNS", "check_kind", "stock_of", "step", "first_state", "ways_from", "count", "row_of", "fits", "number_of", "own_mirrored", "_law_draws", "_law_mix", "_law_ways", "_law_count"]
def names : List Str := names0
def hview : Program := PySem.W.view RowR.prog [23]
theorem run (w : World) : HandSHeadRun.RunEq RowR hview hook obs 4000 names w := by
  intro os
  kernel_rfl
theorem facts {w : World} {K : PySem.W.Frag} {h : Heap} {mg : Str → Option Value} {f : Addr} (X : K.In h) (G : h.Ns mainGlobals mg) (hfa : mg ("law" : Str) = some (.ref f)) (c : He.SaysD fas fns K) :
    ∃ fd : FuncData, (∀ (s : Shared) (v : Value), BindsTo s fd ⟨[v], []⟩ [("script", v)]) ∧ ∀ base : Heap, FnOk prog w K mg base (L2.CX prog w) 17 f fd P_law (spT ⟨prog, w, K⟩ false false ew0 F_law) := by
  have GG : Gs mg := ⟨He.free_ok X G (c.fact 15 (f := .free "abs") rfl), He.free_ok X G (c.fact 16 (f := .free "any") rfl), He.free_ok X G (c.fact 17 (f := .free "enumerate") rfl), He.free_ok X G (c.fact 18 (f := .free "int") rfl), He.free_ok X G (c.fact 19 (f := .free "len") rfl), He.free_ok X G (c.fact 20 (f := .free "list") rfl), He.free_ok X G (c.fact 21 (f := .free "min") rfl), He.free_ok X G (c.fact 22 (f := .free "range") rfl), He.free_ok X G (c.fact 23 (f := .free "repr") rfl), He.free_ok X G (c.fact 24 (f := .free "sum") rfl), He.free_ok X G (c.fact 25 (f := .free "tuple") rfl), He.int_ok X G (c.fact 26 (f := .int "MOST_REST" 7) rfl), He.str_ok X G (c.fact 27 (f := .str "SIGNS" "BKNQR") rfl)⟩
  obtain ⟨fd__law_draws, D__law_draws⟩ := c.def_ 0 (d := d__law_draws) rfl
  have B__law_draws : Binds K fd__law_draws P__law_draws [] := D__law_draws.bindsN fun _ _ _ _ _ _ us hl => match us, hl with | [_], _ => rfl
  have A__law_draws : DefAt K mg "_law_draws" st__law_draws P__law_draws := defAt X G D__law_draws (c.fact 0 (f := .glo "_law_draws") rfl) B__law_draws
  obtain ⟨fd__law_mix, D__law_mix⟩ := c.def_ 1 (d := d__law_mix) rfl
  have B__law_mix : Binds K fd__law_mix P__law_mix [] := D__law_mix.bindsN fun _ _ _ _ _ _ us hl => match us, hl with | [_, _, _], _ => rfl
  have A__law_mix : DefAt K mg "_law_mix" st__law_mix P__law_mix := defAt X G D__law_mix (c.fact 1 (f := .glo "_law_mix") rfl) B__law_mix
  obtain ⟨fd_check_kind, D_check_kind⟩ := c.def_ 2 (d := d_check_kind) rfl
  have B_check_kind : Binds K fd_check_kind P_check_kind [] := D_check_kind.bindsN fun _ _ _ _ _ _ us hl => match us, hl with | [_], _ => rfl
  have A_check_kind : DefAt K mg "check_kind" st_check_kind P_check_kind := defAt X G D_check_kind (c.fact 2 (f := .glo "check_kind") rfl) B_check_kind
  obtain ⟨fd_step, D_step⟩ := c.def_ 3 (d := d_step) rfl
  have B_step : Binds K fd_step P_step [] := D_step.bindsN fun _ _ _ _ _ _ us hl => match us, hl with | [_, _, _], _ => rfl
  have A_step : DefAt K mg "step" st_step P_step := defAt X G D_step (c.fact 3 (f := .glo "step") rfl) B_step
  obtain ⟨fd_ways_from, D_ways_from⟩ := c.def_ 4 (d := d_ways_from) rfl
  have B_ways_from : Binds K fd_ways_from P_ways_from [] := D_ways_from.bindsN fun _ _ _ _ _ _ us hl => match us, hl with | [_, _, _], _ => rfl
  have A_ways_from : DefAt K mg "ways_from" st_ways_from P_ways_from := defAt X G D_ways_from (c.fact 4 (f := .glo "ways_from") rfl) B_ways_from
  obtain ⟨fd_stock_of, D_stock_of⟩ := c.def_ 5 (d := d_stock_of) rfl
  have B_stock_of : Binds K fd_stock_of P_stock_of [] := D_stock_of.bindsN fun _ _ _ _ _ _ us hl => match us, hl with | [_], _ => rfl
  have A_stock_of : DefAt K mg "stock_of" st_stock_of P_stock_of := defAt X G D_stock_of (c.fact 5 (f := .glo "stock_of") rfl) B_stock_of
  obtain ⟨fd_first_state, D_first_state⟩ := c.def_ 6 (d := d_first_state) rfl
  have B_first_state : Binds K fd_first_state P_first_state [] := D_first_state.bindsN fun _ _ _ _ _ _ us hl => match us, hl with | [_], _ => rfl
  have A_first_state : DefAt K mg "first_state" st_first_state P_first_state := defAt X G D_first_state (c.fact 6 (f := .glo "first_state") rfl) B_first_state
  obtain ⟨fd_count, D_count⟩ := c.def_ 7 (d := d_count) rfl
  have B_count : Binds K fd_count P_count [] := D_count.bindsN fun _ _ _ _ _ _ us hl => match us, hl with | [_], _ => rfl
  have A_count : DefAt K mg "count" st_count P_count := defAt X G D_count (c.fact 7 (f := .glo "count") rfl) B_count
  obtain ⟨fd_row_of, D_row_of⟩ := c.def_ 8 (d := d_row_of) rfl
  have B_row_of : Binds K fd_row_of P_row_of [] := D_row_of.bindsN fun _ _ _ _ _ _ us hl => match us, hl with | [_, _], _ => rfl
  have A_row_of : DefAt K mg "row_of" st_row_of P_row_of := defAt X G D_row_of (c.fact 8 (f := .glo "row_of") rfl) B_row_of
  obtain ⟨fd_fits, D_fits⟩ := c.def_ 9 (d := d_fits) rfl
  have B_fits : Binds K fd_fits P_fits [] := D_fits.bindsN fun _ _ _ _ _ _ us hl => match us, hl with | [_, _], _ => rfl
  have A_fits : DefAt K mg "fits" st_fits P_fits := defAt X G D_fits (c.fact 9 (f := .glo "fits") rfl) B_fits
  obtain ⟨fd_number_of, D_number_of⟩ := c.def_ 10 (d := d_number_of) rfl
  have B_number_of : Binds K fd_number_of P_number_of [] := D_number_of.bindsN fun _ _ _ _ _ _ us hl => match us, hl with | [_, _], _ => rfl
  have A_number_of : DefAt K mg "number_of" st_number_of P_number_of := defAt X G D_number_of (c.fact 10 (f := .glo "number_of") rfl) B_number_of
  obtain ⟨fd_own_mirrored, D_own_mirrored⟩ := c.def_ 11 (d := d_own_mirrored) rfl
  have B_own_mirrored : Binds K fd_own_mirrored P_own_mirrored [] := D_own_mirrored.bindsN fun _ _ _ _ _ _ us hl => match us, hl with | [_], _ => rfl
  have A_own_mirrored : DefAt K mg "own_mirrored" st_own_mirrored P_own_mirrored := defAt X G D_own_mirrored (c.fact 11 (f := .glo "own_mirrored") rfl) B_own_mirrored
  obtain ⟨fd__law_ways, D__law_ways⟩ := c.def_ 12 (d := d__law_ways) rfl
  have B__law_ways : Binds K fd__law_ways P__law_ways [] := D__law_ways.bindsN fun _ _ _ _ _ _ us hl => match us, hl with | [_, _], _ => rfl
  have A__law_ways : DefAt K mg "_law_ways" st__law_ways P__law_ways := defAt X G D__law_ways (c.fact 12 (f := .glo "_law_ways") rfl) B__law_ways
  obtain ⟨fd__law_count, D__law_count⟩ := c.def_ 13 (d := d__law_count) rfl
  have B__law_count : Binds K fd__law_count P__law_count [] := D__law_count.bindsN fun _ _ _ _ _ _ us hl => match us, hl with | [_], _ => rfl
  have A__law_count : DefAt K mg "_law_count" st__law_count P__law_count := defAt X G D__law_count (c.fact 13 (f := .glo "_law_count") rfl) B__law_count
  obtain ⟨fd_law, D_law⟩ := c.def_ 14 (d := d_law) rfl
  have B_law : Binds K fd_law P_law [] := D_law.bindsN fun _ _ _ _ _ _ us hl => match us, hl with | [_], _ => rfl
  have A_law : DefAt K mg "law" st_law P_law := defAt X G D_law (c.fact 14 (f := .glo "law") rfl) B_law
  have e := hfa.symm.trans (He.glo_ok X G (c.fact 14 (f := .glo "law") rfl))
  cases e
  have b := FunD.bindsA (ps := P_law) D_law fun _ _ _ _ _ _ us hl => match us, hl with | [_], _ => rfl
  refine ⟨fd_law, fun s v => b s [v] rfl, fun base => ?_⟩
  have C__law_draws := ok__law_draws (w := w) (base := base) GG A__law_draws 
  have C__law_mix := ok__law_mix (w := w) (base := base) GG A__law_mix 
  have C_check_kind := ok_check_kind (w := w) (base := base) GG A_check_kind 
  have C_step := ok_step (w := w) (base := base) GG A_step 
  have C_ways_from := ok_ways_from (w := w) (base := base) GG A_ways_from C_step 12
  have C_stock_of := ok_stock_of (w := w) (base := base) GG A_stock_of 
  have C_first_state := ok_first_state (w := w) (base := base) GG A_first_state C_stock_of
  have C_count := ok_count (w := w) (base := base) GG A_count C_check_kind C_ways_from C_first_state
  have C_row_of := ok_row_of (w := w) (base := base) GG A_row_of C_check_kind C_first_state C_ways_from C_step
  have C_fits := ok_fits (w := w) (base := base) GG A_fits C_check_kind C_stock_of
  have C_number_of := ok_number_of (w := w) (base := base) GG A_number_of C_fits C_first_state C_step C_ways_from
  have C_own_mirrored := ok_own_mirrored (w := w) (base := base) GG A_own_mirrored C_count C_row_of
  have C__law_ways := ok__law_ways (w := w) (base := base) GG A__law_ways 
  have C__law_count := ok__law_count (w := w) (base := base) GG A__law_count C__law_ways
  have C_law := ok_law (w := w) (base := base) GG A_law C__law_draws C__law_mix C_count C__law_count C_row_of C_number_of C_fits C_own_mirrored
  obtain ⟨f2, fd2, h1, h2, h3, h4, h5⟩ := C_law.ex
  have e2 := (He.glo_ok X G (c.fact 14 (f := .glo "law") rfl)).symm.trans h2
  cases e2
  cases h5.inj (fdOf D_law)
  exact h1
theorem holds (hlaw : ∀ ns : List Int, ns.length ≤ 63 → F_law [.list (ns.map PyData.int)] = .ok (.bool true) none) : PySem.Challenge.rw_matestold_k77_whole_counts_of_first_rows.Holds := by
  w_on; o_law
  refine HandSHeadRun.head_any (r := PySem.W.OpenLaw.row PySem.Challenge.rw_matestold_k77_whole_counts_of_first_rows) (q := hview) (H := hook) (ob := obs) (M := 4000) (loose := names) (d := HandSHeadRun.topDef prog 23) (kwd := []) obs_eq
    (by kernel_rfl) (fun s => by kernel_rfl) run (by kernel_rfl) (by kernel_rfl) (by kernel_rfl) (by rfl) (by first | assumption | decide +kernel) (by decide +kernel) ⟨rfl, rfl, rfl, rfl, rfl, by decide +kernel⟩ ?hw ?hc
  case hw => w_witness2
  case hc =>
    refine walk_t (l := PySem.Challenge.rw_matestold_k77_whole_counts_of_first_rows) (n := 63) (k := 17) (x := "script") rfl (by decide) (by kernel_rfl) ⟨rfl, by decide, by decide⟩ hlaw ?_
    intro w mg fa h Y G hmg0
    obtain ⟨K, KX, c⟩ := Y
    have hmg : mg ("law" : Str) = some (.ref fa) := by
      have e : (HandSHeadRun.topDef prog 23).name = ("law" : Str) := by kernel_rfl
      rw [← e]
      exact hmg0
    exact ⟨K, KX, facts KX G hmg c⟩
end K77
end

section
set_option autoImplicit false
namespace K77
open PySem PySem.Spec PyProof.Rows L2 T3
def stD (b k n q r rk : Int) (g : Int) : T3.D := .tuple [.tuple [.int b, .int k, .int n, .int q, .int r], .int rk, .int g]
theorem ix_B : pSIndex (.str "BKNQR") [.str "B"] = some (.fz (.int 0)) := by kernel_rfl
theorem eq_BB : pEq false (.str "B") (.str "B") = some (.fz (.bool true)) := by kernel_rfl
theorem eq_BK : pEq false (.str "B") (.str "K") = some (.fz (.bool false)) := by kernel_rfl
theorem eq_BR : pEq false (.str "B") (.str "R") = some (.fz (.bool false)) := by kernel_rfl
theorem ix_K : pSIndex (.str "BKNQR") [.str "K"] = some (.fz (.int 1)) := by kernel_rfl
theorem eq_KB : pEq false (.str "K") (.str "B") = some (.fz (.bool false)) := by kernel_rfl
theorem eq_KK : pEq false (.str "K") (.str "K") = some (.fz (.bool true)) := by kernel_rfl
theorem eq_KR : pEq false (.str "K") (.str "R") = some (.fz (.bool false)) := by kernel_rfl
theorem ix_N : pSIndex (.str "BKNQR") [.str "N"] = some (.fz (.int 2)) := by kernel_rfl
theorem eq_NB : pEq false (.str "N") (.str "B") = some (.fz (.bool false)) := by kernel_rfl
theorem eq_NK : pEq false (.str "N") (.str "K") = some (.fz (.bool false)) := by kernel_rfl
theorem eq_NR : pEq false (.str "N") (.str "R") = some (.fz (.bool false)) := by kernel_rfl
theorem ix_Q : pSIndex (.str "BKNQR") [.str "Q"] = some (.fz (.int 3)) := by kernel_rfl
theorem eq_QB : pEq false (.str "Q") (.str "B") = some (.fz (.bool false)) := by kernel_rfl
theorem eq_QK : pEq false (.str "Q") (.str "K") = some (.fz (.bool false)) := by kernel_rfl
theorem eq_QR : pEq false (.str "Q") (.str "R") = some (.fz (.bool false)) := by kernel_rfl
theorem ix_R : pSIndex (.str "BKNQR") [.str "R"] = some (.fz (.int 4)) := by kernel_rfl
theorem eq_RB : pEq false (.str "R") (.str "B") = some (.fz (.bool false)) := by kernel_rfl
theorem eq_RK : pEq false (.str "R") (.str "K") = some (.fz (.bool false)) := by kernel_rfl
theorem eq_RR : pEq false (.str "R") (.str "R") = some (.fz (.bool true)) := by kernel_rfl
theorem step_B (b k n q r rk g p : Int) : F_step [stD b k n q r rk g, .str "B", .int p] = .ok (if b = 0 then .none else stD (b - 1) k n q r rk (g + (if p % 2 = 0 then 1 else -1))) none := by
  unfold F_step mkFn
  rw [if_pos ⟨rfl, fun h => by cases h⟩]
  unfold B_step
  have e : (mkE false [stD b k n q r rk g, .str "B", .int p] ++ List.replicate (7 - 3) Slot.non) = [.fz (stD b k n q r rk g), .fz (.str "B"), .fz (.int p), .non, .non, .non, .non] := rfl
  rw [e]
  unfold stD
  clear e
  by_cases hb : b = 0
  · simp only [e_vName, e_vC, e_rd, e_fz, e_op1, e_op2, e_aNil, e_aCons, e_aLast, e_opN, e_dsp, e_opC, e_vOr, e_vAnd, e_vNot, e_vIf, e_tst, e_tru, e_tAnd, e_tOr, e_tNot, e_opMt, e_ptNone, e_ptSome, e_opSl, e_opSt, e_callF, e_callIo, e_mMut, e_vDict0, e_vDict, e_dCons, e_dNil, e_sNil, e_sSeq, e_sIf, e_sRet, e_sRetN, e_sExpr, e_sBk, e_sCt, e_sSet, e_slF, e_sAsg, e_sPut, e_iSeq, e_iRange1, e_iRange2, e_iEnum, e_tstYes, e_gN0, e_gT, e_gsNil, e_gsCons, e_eqI, fzR, Rv.get, getA, allFz, appO, Out.rv, List.getElem?_cons_zero, List.getElem?_cons_succ, List.set_cons_zero, List.set_cons_succ, Nat.reduceAdd, List.length_cons, List.length_nil, if_true, if_false, one, decide_true, decide_false, Bool.xor_false, Bool.false_xor, Bool.true_xor, Bool.not_true, Bool.not_false, oTup, oLst, splitL, List.cons_append, List.nil_append, e_gN, and_self, o_addI, o_subI, o_mulI, o_modI, o_neg, o_ltI, o_leI, o_gtI, o_geI, o_isN, o_nN, o_nB, o_nI, o_nS, o_nT, o_nL, o_nD, o_isB, o_itL, o_itT, o_listL, o_listT, o_tupL, o_tupT, o_lenL, o_lenT, o_lenS, o_abs, o_toInt, o_app, o_ixTn, o_ixLn, o_ixDct, o_inDct, o_setLn, o_setDct, o_sumL, o_sumT, o_ln0, o_ln1, o_ln2, o_ln3, o_ln4, o_ln5, o_ln6, o_ln7, o_ln8, o_ln9, o_ln10, o_ln11, o_ixT0, o_ixL0, o_setL0, o_ixT1, o_ixL1, o_setL1, o_ixT2, o_ixL2, o_setL2, o_ixT3, o_ixL3, o_setL3, o_ixT4, o_ixL4, o_setL4, o_ixT5, o_ixL5, o_setL5, o_ixT6, o_ixL6, o_setL6, o_ixT7, o_ixL7, o_setL7, o_ixT8, o_ixL8, o_setL8, o_ixT9, o_ixL9, o_setL9, o_divI, Option.map_some, Option.map_none, List.not_mem_nil, reduceIte, Bool.false_eq_true, List.mem_singleton, Nat.reduceLT, Nat.reduceLeDiff, Int.reduceLT, Int.reduceLE, Nat.reduceEqDiff, Int.reduceNeg, ix_B, eq_BB, eq_BK, eq_BR, ix_K, eq_KB, eq_KK, eq_KR, ix_N, eq_NB, eq_NK, eq_NR, ix_Q, eq_QB, eq_QK, eq_QR, ix_R, eq_RB, eq_RK, eq_RR, hb]
    rfl
  · by_cases hp : p % 2 = 0
    · simp only [e_vName, e_vC, e_rd, e_fz, e_op1, e_op2, e_aNil, e_aCons, e_aLast, e_opN, e_dsp, e_opC, e_vOr, e_vAnd, e_vNot, e_vIf, e_tst, e_tru, e_tAnd, e_tOr, e_tNot, e_opMt, e_ptNone, e_ptSome, e_opSl, e_opSt, e_callF, e_callIo, e_mMut, e_vDict0, e_vDict, e_dCons, e_dNil, e_sNil, e_sSeq, e_sIf, e_sRet, e_sRetN, e_sExpr, e_sBk, e_sCt, e_sSet, e_slF, e_sAsg, e_sPut, e_iSeq, e_iRange1, e_iRange2, e_iEnum, e_tstYes, e_gN0, e_gT, e_gsNil, e_gsCons, e_eqI, fzR, Rv.get, getA, allFz, appO, Out.rv, List.getElem?_cons_zero, List.getElem?_cons_succ, List.set_cons_zero, List.set_cons_succ, Nat.reduceAdd, List.length_cons, List.length_nil, if_true, if_false, one, decide_true, decide_false, Bool.xor_false, Bool.false_xor, Bool.true_xor, Bool.not_true, Bool.not_false, oTup, oLst, splitL, List.cons_append, List.nil_append, e_gN, and_self, o_addI, o_subI, o_mulI, o_modI, o_neg, o_ltI, o_leI, o_gtI, o_geI, o_isN, o_nN, o_nB, o_nI, o_nS, o_nT, o_nL, o_nD, o_isB, o_itL, o_itT, o_listL, o_listT, o_tupL, o_tupT, o_lenL, o_lenT, o_lenS, o_abs, o_toInt, o_app, o_ixTn, o_ixLn, o_ixDct, o_inDct, o_setLn, o_setDct, o_sumL, o_sumT, o_ln0, o_ln1, o_ln2, o_ln3, o_ln4, o_ln5, o_ln6, o_ln7, o_ln8, o_ln9, o_ln10, o_ln11, o_ixT0, o_ixL0, o_setL0, o_ixT1, o_ixL1, o_setL1, o_ixT2, o_ixL2, o_setL2, o_ixT3, o_ixL3, o_setL3, o_ixT4, o_ixL4, o_setL4, o_ixT5, o_ixL5, o_setL5, o_ixT6, o_ixL6, o_setL6, o_ixT7, o_ixL7, o_setL7, o_ixT8, o_ixL8, o_setL8, o_ixT9, o_ixL9, o_setL9, o_divI, Option.map_some, Option.map_none, List.not_mem_nil, reduceIte, Bool.false_eq_true, List.mem_singleton, Nat.reduceLT, Nat.reduceLeDiff, Int.reduceLT, Int.reduceLE, Nat.reduceEqDiff, Int.reduceNeg, ix_B, eq_BB, eq_BK, eq_BR, ix_K, eq_KB, eq_KK, eq_KR, ix_N, eq_NB, eq_NK, eq_NR, ix_Q, eq_QB, eq_QK, eq_QR, ix_R, eq_RB, eq_RK, eq_RR, hb, hp]
      rfl
    · simp only [e_vName, e_vC, e_rd, e_fz, e_op1, e_op2, e_aNil, e_aCons, e_aLast, e_opN, e_dsp, e_opC, e_vOr, e_vAnd, e_vNot, e_vIf, e_tst, e_tru, e_tAnd, e_tOr, e_tNot, e_opMt, e_ptNone, e_ptSome, e_opSl, e_opSt, e_callF, e_callIo, e_mMut, e_vDict0, e_vDict, e_dCons, e_dNil, e_sNil, e_sSeq, e_sIf, e_sRet, e_sRetN, e_sExpr, e_sBk, e_sCt, e_sSet, e_slF, e_sAsg, e_sPut, e_iSeq, e_iRange1, e_iRange2, e_iEnum, e_tstYes, e_gN0, e_gT, e_gsNil, e_gsCons, e_eqI, fzR, Rv.get, getA, allFz, appO, Out.rv, List.getElem?_cons_zero, List.getElem?_cons_succ, List.set_cons_zero, List.set_cons_succ, Nat.reduceAdd, List.length_cons, List.length_nil, if_true, if_false, one, decide_true, decide_false, Bool.xor_false, Bool.false_xor, Bool.true_xor, Bool.not_true, Bool.not_false, oTup, oLst, splitL, List.cons_append, List.nil_append, e_gN, and_self, o_addI, o_subI, o_mulI, o_modI, o_neg, o_ltI, o_leI, o_gtI, o_geI, o_isN, o_nN, o_nB, o_nI, o_nS, o_nT, o_nL, o_nD, o_isB, o_itL, o_itT, o_listL, o_listT, o_tupL, o_tupT, o_lenL, o_lenT, o_lenS, o_abs, o_toInt, o_app, o_ixTn, o_ixLn, o_ixDct, o_inDct, o_setLn, o_setDct, o_sumL, o_sumT, o_ln0, o_ln1, o_ln2, o_ln3, o_ln4, o_ln5, o_ln6, o_ln7, o_ln8, o_ln9, o_ln10, o_ln11, o_ixT0, o_ixL0, o_setL0, o_ixT1, o_ixL1, o_setL1, o_ixT2, o_ixL2, o_setL2, o_ixT3, o_ixL3, o_setL3, o_ixT4, o_ixL4, o_setL4, o_ixT5, o_ixL5, o_setL5, o_ixT6, o_ixL6, o_setL6, o_ixT7, o_ixL7, o_setL7, o_ixT8, o_ixL8, o_setL8, o_ixT9, o_ixL9, o_setL9, o_divI, Option.map_some, Option.map_none, List.not_mem_nil, reduceIte, Bool.false_eq_true, List.mem_singleton, Nat.reduceLT, Nat.reduceLeDiff, Int.reduceLT, Int.reduceLE, Nat.reduceEqDiff, Int.reduceNeg, ix_B, eq_BB, eq_BK, eq_BR, ix_K, eq_KB, eq_KK, eq_KR, ix_N, eq_NB, eq_NK, eq_NR, ix_Q, eq_QB, eq_QK, eq_QR, ix_R, eq_RB, eq_RK, eq_RR, hb, hp]
      rfl
theorem step_K (b k n q r rk g p : Int) : F_step [stD b k n q r rk g, .str "K", .int p] = .ok (if k = 0 ∨ ¬ rk = 1 then .none else stD b (k - 1) n q r rk g) none := by
  unfold F_step mkFn
  rw [if_pos ⟨rfl, fun h => by cases h⟩]
  unfold B_step
  have e : (mkE false [stD b k n q r rk g, .str "K", .int p] ++ List.replicate (7 - 3) Slot.non) = [.fz (stD b k n q r rk g), .fz (.str "K"), .fz (.int p), .non, .non, .non, .non] := rfl
  rw [e]
  unfold stD
  clear e
  by_cases hb : k = 0
  · simp only [e_vName, e_vC, e_rd, e_fz, e_op1, e_op2, e_aNil, e_aCons, e_aLast, e_opN, e_dsp, e_opC, e_vOr, e_vAnd, e_vNot, e_vIf, e_tst, e_tru, e_tAnd, e_tOr, e_tNot, e_opMt, e_ptNone, e_ptSome, e_opSl, e_opSt, e_callF, e_callIo, e_mMut, e_vDict0, e_vDict, e_dCons, e_dNil, e_sNil, e_sSeq, e_sIf, e_sRet, e_sRetN, e_sExpr, e_sBk, e_sCt, e_sSet, e_slF, e_sAsg, e_sPut, e_iSeq, e_iRange1, e_iRange2, e_iEnum, e_tstYes, e_gN0, e_gT, e_gsNil, e_gsCons, e_eqI, fzR, Rv.get, getA, allFz, appO, Out.rv, List.getElem?_cons_zero, List.getElem?_cons_succ, List.set_cons_zero, List.set_cons_succ, Nat.reduceAdd, List.length_cons, List.length_nil, if_true, if_false, one, decide_true, decide_false, Bool.xor_false, Bool.false_xor, Bool.true_xor, Bool.not_true, Bool.not_false, oTup, oLst, splitL, List.cons_append, List.nil_append, e_gN, and_self, o_addI, o_subI, o_mulI, o_modI, o_neg, o_ltI, o_leI, o_gtI, o_geI, o_isN, o_nN, o_nB, o_nI, o_nS, o_nT, o_nL, o_nD, o_isB, o_itL, o_itT, o_listL, o_listT, o_tupL, o_tupT, o_lenL, o_lenT, o_lenS, o_abs, o_toInt, o_app, o_ixTn, o_ixLn, o_ixDct, o_inDct, o_setLn, o_setDct, o_sumL, o_sumT, o_ln0, o_ln1, o_ln2, o_ln3, o_ln4, o_ln5, o_ln6, o_ln7, o_ln8, o_ln9, o_ln10, o_ln11, o_ixT0, o_ixL0, o_setL0, o_ixT1, o_ixL1, o_setL1, o_ixT2, o_ixL2, o_setL2, o_ixT3, o_ixL3, o_setL3, o_ixT4, o_ixL4, o_setL4, o_ixT5, o_ixL5, o_setL5, o_ixT6, o_ixL6, o_setL6, o_ixT7, o_ixL7, o_setL7, o_ixT8, o_ixL8, o_setL8, o_ixT9, o_ixL9, o_setL9, o_divI, Option.map_some, Option.map_none, List.not_mem_nil, reduceIte, Bool.false_eq_true, List.mem_singleton, Nat.reduceLT, Nat.reduceLeDiff, Int.reduceLT, Int.reduceLE, Nat.reduceEqDiff, Int.reduceNeg, ix_B, eq_BB, eq_BK, eq_BR, ix_K, eq_KB, eq_KK, eq_KR, ix_N, eq_NB, eq_NK, eq_NR, ix_Q, eq_QB, eq_QK, eq_QR, ix_R, eq_RB, eq_RK, eq_RR, hb, true_or]
    rfl
  · by_cases hr : rk = 1
    · simp only [e_vName, e_vC, e_rd, e_fz, e_op1, e_op2, e_aNil, e_aCons, e_aLast, e_opN, e_dsp, e_opC, e_vOr, e_vAnd, e_vNot, e_vIf, e_tst, e_tru, e_tAnd, e_tOr, e_tNot, e_opMt, e_ptNone, e_ptSome, e_opSl, e_opSt, e_callF, e_callIo, e_mMut, e_vDict0, e_vDict, e_dCons, e_dNil, e_sNil, e_sSeq, e_sIf, e_sRet, e_sRetN, e_sExpr, e_sBk, e_sCt, e_sSet, e_slF, e_sAsg, e_sPut, e_iSeq, e_iRange1, e_iRange2, e_iEnum, e_tstYes, e_gN0, e_gT, e_gsNil, e_gsCons, e_eqI, fzR, Rv.get, getA, allFz, appO, Out.rv, List.getElem?_cons_zero, List.getElem?_cons_succ, List.set_cons_zero, List.set_cons_succ, Nat.reduceAdd, List.length_cons, List.length_nil, if_true, if_false, one, decide_true, decide_false, Bool.xor_false, Bool.false_xor, Bool.true_xor, Bool.not_true, Bool.not_false, oTup, oLst, splitL, List.cons_append, List.nil_append, e_gN, and_self, o_addI, o_subI, o_mulI, o_modI, o_neg, o_ltI, o_leI, o_gtI, o_geI, o_isN, o_nN, o_nB, o_nI, o_nS, o_nT, o_nL, o_nD, o_isB, o_itL, o_itT, o_listL, o_listT, o_tupL, o_tupT, o_lenL, o_lenT, o_lenS, o_abs, o_toInt, o_app, o_ixTn, o_ixLn, o_ixDct, o_inDct, o_setLn, o_setDct, o_sumL, o_sumT, o_ln0, o_ln1, o_ln2, o_ln3, o_ln4, o_ln5, o_ln6, o_ln7, o_ln8, o_ln9, o_ln10, o_ln11, o_ixT0, o_ixL0, o_setL0, o_ixT1, o_ixL1, o_setL1, o_ixT2, o_ixL2, o_setL2, o_ixT3, o_ixL3, o_setL3, o_ixT4, o_ixL4, o_setL4, o_ixT5, o_ixL5, o_setL5, o_ixT6, o_ixL6, o_setL6, o_ixT7, o_ixL7, o_setL7, o_ixT8, o_ixL8, o_setL8, o_ixT9, o_ixL9, o_setL9, o_divI, Option.map_some, Option.map_none, List.not_mem_nil, reduceIte, Bool.false_eq_true, List.mem_singleton, Nat.reduceLT, Nat.reduceLeDiff, Int.reduceLT, Int.reduceLE, Nat.reduceEqDiff, Int.reduceNeg, ix_B, eq_BB, eq_BK, eq_BR, ix_K, eq_KB, eq_KK, eq_KR, ix_N, eq_NB, eq_NK, eq_NR, ix_Q, eq_QB, eq_QK, eq_QR, ix_R, eq_RB, eq_RK, eq_RR, hb, hr, not_true, false_or]
      rfl
    · simp only [e_vName, e_vC, e_rd, e_fz, e_op1, e_op2, e_aNil, e_aCons, e_aLast, e_opN, e_dsp, e_opC, e_vOr, e_vAnd, e_vNot, e_vIf, e_tst, e_tru, e_tAnd, e_tOr, e_tNot, e_opMt, e_ptNone, e_ptSome, e_opSl, e_opSt, e_callF, e_callIo, e_mMut, e_vDict0, e_vDict, e_dCons, e_dNil, e_sNil, e_sSeq, e_sIf, e_sRet, e_sRetN, e_sExpr, e_sBk, e_sCt, e_sSet, e_slF, e_sAsg, e_sPut, e_iSeq, e_iRange1, e_iRange2, e_iEnum, e_tstYes, e_gN0, e_gT, e_gsNil, e_gsCons, e_eqI, fzR, Rv.get, getA, allFz, appO, Out.rv, List.getElem?_cons_zero, List.getElem?_cons_succ, List.set_cons_zero, List.set_cons_succ, Nat.reduceAdd, List.length_cons, List.length_nil, if_true, if_false, one, decide_true, decide_false, Bool.xor_false, Bool.false_xor, Bool.true_xor, Bool.not_true, Bool.not_false, oTup, oLst, splitL, List.cons_append, List.nil_append, e_gN, and_self, o_addI, o_subI, o_mulI, o_modI, o_neg, o_ltI, o_leI, o_gtI, o_geI, o_isN, o_nN, o_nB, o_nI, o_nS, o_nT, o_nL, o_nD, o_isB, o_itL, o_itT, o_listL, o_listT, o_tupL, o_tupT, o_lenL, o_lenT, o_lenS, o_abs, o_toInt, o_app, o_ixTn, o_ixLn, o_ixDct, o_inDct, o_setLn, o_setDct, o_sumL, o_sumT, o_ln0, o_ln1, o_ln2, o_ln3, o_ln4, o_ln5, o_ln6, o_ln7, o_ln8, o_ln9, o_ln10, o_ln11, o_ixT0, o_ixL0, o_setL0, o_ixT1, o_ixL1, o_setL1, o_ixT2, o_ixL2, o_setL2, o_ixT3, o_ixL3, o_setL3, o_ixT4, o_ixL4, o_setL4, o_ixT5, o_ixL5, o_setL5, o_ixT6, o_ixL6, o_setL6, o_ixT7, o_ixL7, o_setL7, o_ixT8, o_ixL8, o_setL8, o_ixT9, o_ixL9, o_setL9, o_divI, Option.map_some, Option.map_none, List.not_mem_nil, reduceIte, Bool.false_eq_true, List.mem_singleton, Nat.reduceLT, Nat.reduceLeDiff, Int.reduceLT, Int.reduceLE, Nat.reduceEqDiff, Int.reduceNeg, ix_B, eq_BB, eq_BK, eq_BR, ix_K, eq_KB, eq_KK, eq_KR, ix_N, eq_NB, eq_NK, eq_NR, ix_Q, eq_QB, eq_QK, eq_QR, ix_R, eq_RB, eq_RK, eq_RR, hb, hr, not_false_iff, or_true]
      rfl
theorem step_N (b k n q r rk g p : Int) : F_step [stD b k n q r rk g, .str "N", .int p] = .ok (if n = 0 then .none else stD b k (n - 1) q r rk g) none := by
  unfold F_step mkFn
  rw [if_pos ⟨rfl, fun h => by cases h⟩]
  unfold B_step
  have e : (mkE false [stD b k n q r rk g, .str "N", .int p] ++ List.replicate (7 - 3) Slot.non) = [.fz (stD b k n q r rk g), .fz (.str "N"), .fz (.int p), .non, .non, .non, .non] := rfl
  rw [e]
  unfold stD
  clear e
  by_cases hb : n = 0
  · simp only [e_vName, e_vC, e_rd, e_fz, e_op1, e_op2, e_aNil, e_aCons, e_aLast, e_opN, e_dsp, e_opC, e_vOr, e_vAnd, e_vNot, e_vIf, e_tst, e_tru, e_tAnd, e_tOr, e_tNot, e_opMt, e_ptNone, e_ptSome, e_opSl, e_opSt, e_callF, e_callIo, e_mMut, e_vDict0, e_vDict, e_dCons, e_dNil, e_sNil, e_sSeq, e_sIf, e_sRet, e_sRetN, e_sExpr, e_sBk, e_sCt, e_sSet, e_slF, e_sAsg, e_sPut, e_iSeq, e_iRange1, e_iRange2, e_iEnum, e_tstYes, e_gN0, e_gT, e_gsNil, e_gsCons, e_eqI, fzR, Rv.get, getA, allFz, appO, Out.rv, List.getElem?_cons_zero, List.getElem?_cons_succ, List.set_cons_zero, List.set_cons_succ, Nat.reduceAdd, List.length_cons, List.length_nil, if_true, if_false, one, decide_true, decide_false, Bool.xor_false, Bool.false_xor, Bool.true_xor, Bool.not_true, Bool.not_false, oTup, oLst, splitL, List.cons_append, List.nil_append, e_gN, and_self, o_addI, o_subI, o_mulI, o_modI, o_neg, o_ltI, o_leI, o_gtI, o_geI, o_isN, o_nN, o_nB, o_nI, o_nS, o_nT, o_nL, o_nD, o_isB, o_itL, o_itT, o_listL, o_listT, o_tupL, o_tupT, o_lenL, o_lenT, o_lenS, o_abs, o_toInt, o_app, o_ixTn, o_ixLn, o_ixDct, o_inDct, o_setLn, o_setDct, o_sumL, o_sumT, o_ln0, o_ln1, o_ln2, o_ln3, o_ln4, o_ln5, o_ln6, o_ln7, o_ln8, o_ln9, o_ln10, o_ln11, o_ixT0, o_ixL0, o_setL0, o_ixT1, o_ixL1, o_setL1, o_ixT2, o_ixL2, o_setL2, o_ixT3, o_ixL3, o_setL3, o_ixT4, o_ixL4, o_setL4, o_ixT5, o_ixL5, o_setL5, o_ixT6, o_ixL6, o_setL6, o_ixT7, o_ixL7, o_setL7, o_ixT8, o_ixL8, o_setL8, o_ixT9, o_ixL9, o_setL9, o_divI, Option.map_some, Option.map_none, List.not_mem_nil, reduceIte, Bool.false_eq_true, List.mem_singleton, Nat.reduceLT, Nat.reduceLeDiff, Int.reduceLT, Int.reduceLE, Nat.reduceEqDiff, Int.reduceNeg, ix_B, eq_BB, eq_BK, eq_BR, ix_K, eq_KB, eq_KK, eq_KR, ix_N, eq_NB, eq_NK, eq_NR, ix_Q, eq_QB, eq_QK, eq_QR, ix_R, eq_RB, eq_RK, eq_RR, hb]
    rfl
  · simp only [e_vName, e_vC, e_rd, e_fz, e_op1, e_op2, e_aNil, e_aCons, e_aLast, e_opN, e_dsp, e_opC, e_vOr, e_vAnd, e_vNot, e_vIf, e_tst, e_tru, e_tAnd, e_tOr, e_tNot, e_opMt, e_ptNone, e_ptSome, e_opSl, e_opSt, e_callF, e_callIo, e_mMut, e_vDict0, e_vDict, e_dCons, e_dNil, e_sNil, e_sSeq, e_sIf, e_sRet, e_sRetN, e_sExpr, e_sBk, e_sCt, e_sSet, e_slF, e_sAsg, e_sPut, e_iSeq, e_iRange1, e_iRange2, e_iEnum, e_tstYes, e_gN0, e_gT, e_gsNil, e_gsCons, e_eqI, fzR, Rv.get, getA, allFz, appO, Out.rv, List.getElem?_cons_zero, List.getElem?_cons_succ, List.set_cons_zero, List.set_cons_succ, Nat.reduceAdd, List.length_cons, List.length_nil, if_true, if_false, one, decide_true, decide_false, Bool.xor_false, Bool.false_xor, Bool.true_xor, Bool.not_true, Bool.not_false, oTup, oLst, splitL, List.cons_append, List.nil_append, e_gN, and_self, o_addI, o_subI, o_mulI, o_modI, o_neg, o_ltI, o_leI, o_gtI, o_geI, o_isN, o_nN, o_nB, o_nI, o_nS, o_nT, o_nL, o_nD, o_isB, o_itL, o_itT, o_listL, o_listT, o_tupL, o_tupT, o_lenL, o_lenT, o_lenS, o_abs, o_toInt, o_app, o_ixTn, o_ixLn, o_ixDct, o_inDct, o_setLn, o_setDct, o_sumL, o_sumT, o_ln0, o_ln1, o_ln2, o_ln3, o_ln4, o_ln5, o_ln6, o_ln7, o_ln8, o_ln9, o_ln10, o_ln11, o_ixT0, o_ixL0, o_setL0, o_ixT1, o_ixL1, o_setL1, o_ixT2, o_ixL2, o_setL2, o_ixT3, o_ixL3, o_setL3, o_ixT4, o_ixL4, o_setL4, o_ixT5, o_ixL5, o_setL5, o_ixT6, o_ixL6, o_setL6, o_ixT7, o_ixL7, o_setL7, o_ixT8, o_ixL8, o_setL8, o_ixT9, o_ixL9, o_setL9, o_divI, Option.map_some, Option.map_none, List.not_mem_nil, reduceIte, Bool.false_eq_true, List.mem_singleton, Nat.reduceLT, Nat.reduceLeDiff, Int.reduceLT, Int.reduceLE, Nat.reduceEqDiff, Int.reduceNeg, ix_B, eq_BB, eq_BK, eq_BR, ix_K, eq_KB, eq_KK, eq_KR, ix_N, eq_NB, eq_NK, eq_NR, ix_Q, eq_QB, eq_QK, eq_QR, ix_R, eq_RB, eq_RK, eq_RR, hb]
    rfl
theorem step_Q (b k n q r rk g p : Int) : F_step [stD b k n q r rk g, .str "Q", .int p] = .ok (if q = 0 then .none else stD b k n (q - 1) r rk g) none := by
  unfold F_step mkFn
  rw [if_pos ⟨rfl, fun h => by cases h⟩]
  unfold B_step
  have e : (mkE false [stD b k n q r rk g, .str "Q", .int p] ++ List.replicate (7 - 3) Slot.non) = [.fz (stD b k n q r rk g), .fz (.str "Q"), .fz (.int p), .non, .non, .non, .non] := rfl
  rw [e]
  unfold stD
  clear e
  by_cases hb : q = 0
  · simp only [e_vName, e_vC, e_rd, e_fz, e_op1, e_op2, e_aNil, e_aCons, e_aLast, e_opN, e_dsp, e_opC, e_vOr, e_vAnd, e_vNot, e_vIf, e_tst, e_tru, e_tAnd, e_tOr, e_tNot, e_opMt, e_ptNone, e_ptSome, e_opSl, e_opSt, e_callF, e_callIo, e_mMut, e_vDict0, e_vDict, e_dCons, e_dNil, e_sNil, e_sSeq, e_sIf, e_sRet, e_sRetN, e_sExpr, e_sBk, e_sCt, e_sSet, e_slF, e_sAsg, e_sPut, e_iSeq, e_iRange1, e_iRange2, e_iEnum, e_tstYes, e_gN0, e_gT, e_gsNil, e_gsCons, e_eqI, fzR, Rv.get, getA, allFz, appO, Out.rv, List.getElem?_cons_zero, List.getElem?_cons_succ, List.set_cons_zero, List.set_cons_succ, Nat.reduceAdd, List.length_cons, List.length_nil, if_true, if_false, one, decide_true, decide_false, Bool.xor_false, Bool.false_xor, Bool.true_xor, Bool.not_true, Bool.not_false, oTup, oLst, splitL, List.cons_append, List.nil_append, e_gN, and_self, o_addI, o_subI, o_mulI, o_modI, o_neg, o_ltI, o_leI, o_gtI, o_geI, o_isN, o_nN, o_nB, o_nI, o_nS, o_nT, o_nL, o_nD, o_isB, o_itL, o_itT, o_listL, o_listT, o_tupL, o_tupT, o_lenL, o_lenT, o_lenS, o_abs, o_toInt, o_app, o_ixTn, o_ixLn, o_ixDct, o_inDct, o_setLn, o_setDct, o_sumL, o_sumT, o_ln0, o_ln1, o_ln2, o_ln3, o_ln4, o_ln5, o_ln6, o_ln7, o_ln8, o_ln9, o_ln10, o_ln11, o_ixT0, o_ixL0, o_setL0, o_ixT1, o_ixL1, o_setL1, o_ixT2, o_ixL2, o_setL2, o_ixT3, o_ixL3, o_setL3, o_ixT4, o_ixL4, o_setL4, o_ixT5, o_ixL5, o_setL5, o_ixT6, o_ixL6, o_setL6, o_ixT7, o_ixL7, o_setL7, o_ixT8, o_ixL8, o_setL8, o_ixT9, o_ixL9, o_setL9, o_divI, Option.map_some, Option.map_none, List.not_mem_nil, reduceIte, Bool.false_eq_true, List.mem_singleton, Nat.reduceLT, Nat.reduceLeDiff, Int.reduceLT, Int.reduceLE, Nat.reduceEqDiff, Int.reduceNeg, ix_B, eq_BB, eq_BK, eq_BR, ix_K, eq_KB, eq_KK, eq_KR, ix_N, eq_NB, eq_NK, eq_NR, ix_Q, eq_QB, eq_QK, eq_QR, ix_R, eq_RB, eq_RK, eq_RR, hb]
    rfl
  · simp only [e_vName, e_vC, e_rd, e_fz, e_op1, e_op2, e_aNil, e_aCons, e_aLast, e_opN, e_dsp, e_opC, e_vOr, e_vAnd, e_vNot, e_vIf, e_tst, e_tru, e_tAnd, e_tOr, e_tNot, e_opMt, e_ptNone, e_ptSome, e_opSl, e_opSt, e_callF, e_callIo, e_mMut, e_vDict0, e_vDict, e_dCons, e_dNil, e_sNil, e_sSeq, e_sIf, e_sRet, e_sRetN, e_sExpr, e_sBk, e_sCt, e_sSet, e_slF, e_sAsg, e_sPut, e_iSeq, e_iRange1, e_iRange2, e_iEnum, e_tstYes, e_gN0, e_gT, e_gsNil, e_gsCons, e_eqI, fzR, Rv.get, getA, allFz, appO, Out.rv, List.getElem?_cons_zero, List.getElem?_cons_succ, List.set_cons_zero, List.set_cons_succ, Nat.reduceAdd, List.length_cons, List.length_nil, if_true, if_false, one, decide_true, decide_false, Bool.xor_false, Bool.false_xor, Bool.true_xor, Bool.not_true, Bool.not_false, oTup, oLst, splitL, List.cons_append, List.nil_append, e_gN, and_self, o_addI, o_subI, o_mulI, o_modI, o_neg, o_ltI, o_leI, o_gtI, o_geI, o_isN, o_nN, o_nB, o_nI, o_nS, o_nT, o_nL, o_nD, o_isB, o_itL, o_itT, o_listL, o_listT, o_tupL, o_tupT, o_lenL, o_lenT, o_lenS, o_abs, o_toInt, o_app, o_ixTn, o_ixLn, o_ixDct, o_inDct, o_setLn, o_setDct, o_sumL, o_sumT, o_ln0, o_ln1, o_ln2, o_ln3, o_ln4, o_ln5, o_ln6, o_ln7, o_ln8, o_ln9, o_ln10, o_ln11, o_ixT0, o_ixL0, o_setL0, o_ixT1, o_ixL1, o_setL1, o_ixT2, o_ixL2, o_setL2, o_ixT3, o_ixL3, o_setL3, o_ixT4, o_ixL4, o_setL4, o_ixT5, o_ixL5, o_setL5, o_ixT6, o_ixL6, o_setL6, o_ixT7, o_ixL7, o_setL7, o_ixT8, o_ixL8, o_setL8, o_ixT9, o_ixL9, o_setL9, o_divI, Option.map_some, Option.map_none, List.not_mem_nil, reduceIte, Bool.false_eq_true, List.mem_singleton, Nat.reduceLT, Nat.reduceLeDiff, Int.reduceLT, Int.reduceLE, Nat.reduceEqDiff, Int.reduceNeg, ix_B, eq_BB, eq_BK, eq_BR, ix_K, eq_KB, eq_KK, eq_KR, ix_N, eq_NB, eq_NK, eq_NR, ix_Q, eq_QB, eq_QK, eq_QR, ix_R, eq_RB, eq_RK, eq_RR, hb]
    rfl
theorem step_R (b k n q r rk g p : Int) : F_step [stD b k n q r rk g, .str "R", .int p] = .ok (if r = 0 ∨ rk = 1 ∧ k = 1 then .none else stD b k n q (r - 1) (rk + 1) g) none := by
  unfold F_step mkFn
  rw [if_pos ⟨rfl, fun h => by cases h⟩]
  unfold B_step
  have e : (mkE false [stD b k n q r rk g, .str "R", .int p] ++ List.replicate (7 - 3) Slot.non) = [.fz (stD b k n q r rk g), .fz (.str "R"), .fz (.int p), .non, .non, .non, .non] := rfl
  rw [e]
  unfold stD
  clear e
  by_cases hb : r = 0
  · simp only [e_vName, e_vC, e_rd, e_fz, e_op1, e_op2, e_aNil, e_aCons, e_aLast, e_opN, e_dsp, e_opC, e_vOr, e_vAnd, e_vNot, e_vIf, e_tst, e_tru, e_tAnd, e_tOr, e_tNot, e_opMt, e_ptNone, e_ptSome, e_opSl, e_opSt, e_callF, e_callIo, e_mMut, e_vDict0, e_vDict, e_dCons, e_dNil, e_sNil, e_sSeq, e_sIf, e_sRet, e_sRetN, e_sExpr, e_sBk, e_sCt, e_sSet, e_slF, e_sAsg, e_sPut, e_iSeq, e_iRange1, e_iRange2, e_iEnum, e_tstYes, e_gN0, e_gT, e_gsNil, e_gsCons, e_eqI, fzR, Rv.get, getA, allFz, appO, Out.rv, List.getElem?_cons_zero, List.getElem?_cons_succ, List.set_cons_zero, List.set_cons_succ, Nat.reduceAdd, List.length_cons, List.length_nil, if_true, if_false, one, decide_true, decide_false, Bool.xor_false, Bool.false_xor, Bool.true_xor, Bool.not_true, Bool.not_false, oTup, oLst, splitL, List.cons_append, List.nil_append, e_gN, and_self, o_addI, o_subI, o_mulI, o_modI, o_neg, o_ltI, o_leI, o_gtI, o_geI, o_isN, o_nN, o_nB, o_nI, o_nS, o_nT, o_nL, o_nD, o_isB, o_itL, o_itT, o_listL, o_listT, o_tupL, o_tupT, o_lenL, o_lenT, o_lenS, o_abs, o_toInt, o_app, o_ixTn, o_ixLn, o_ixDct, o_inDct, o_setLn, o_setDct, o_sumL, o_sumT, o_ln0, o_ln1, o_ln2, o_ln3, o_ln4, o_ln5, o_ln6, o_ln7, o_ln8, o_ln9, o_ln10, o_ln11, o_ixT0, o_ixL0, o_setL0, o_ixT1, o_ixL1, o_setL1, o_ixT2, o_ixL2, o_setL2, o_ixT3, o_ixL3, o_setL3, o_ixT4, o_ixL4, o_setL4, o_ixT5, o_ixL5, o_setL5, o_ixT6, o_ixL6, o_setL6, o_ixT7, o_ixL7, o_setL7, o_ixT8, o_ixL8, o_setL8, o_ixT9, o_ixL9, o_setL9, o_divI, Option.map_some, Option.map_none, List.not_mem_nil, reduceIte, Bool.false_eq_true, List.mem_singleton, Nat.reduceLT, Nat.reduceLeDiff, Int.reduceLT, Int.reduceLE, Nat.reduceEqDiff, Int.reduceNeg, ix_B, eq_BB, eq_BK, eq_BR, ix_K, eq_KB, eq_KK, eq_KR, ix_N, eq_NB, eq_NK, eq_NR, ix_Q, eq_QB, eq_QK, eq_QR, ix_R, eq_RB, eq_RK, eq_RR, hb, true_or]
    rfl
  · by_cases hr : rk = 1
    · by_cases hk : k = 1
      · simp only [e_vName, e_vC, e_rd, e_fz, e_op1, e_op2, e_aNil, e_aCons, e_aLast, e_opN, e_dsp, e_opC, e_vOr, e_vAnd, e_vNot, e_vIf, e_tst, e_tru, e_tAnd, e_tOr, e_tNot, e_opMt, e_ptNone, e_ptSome, e_opSl, e_opSt, e_callF, e_callIo, e_mMut, e_vDict0, e_vDict, e_dCons, e_dNil, e_sNil, e_sSeq, e_sIf, e_sRet, e_sRetN, e_sExpr, e_sBk, e_sCt, e_sSet, e_slF, e_sAsg, e_sPut, e_iSeq, e_iRange1, e_iRange2, e_iEnum, e_tstYes, e_gN0, e_gT, e_gsNil, e_gsCons, e_eqI, fzR, Rv.get, getA, allFz, appO, Out.rv, List.getElem?_cons_zero, List.getElem?_cons_succ, List.set_cons_zero, List.set_cons_succ, Nat.reduceAdd, List.length_cons, List.length_nil, if_true, if_false, one, decide_true, decide_false, Bool.xor_false, Bool.false_xor, Bool.true_xor, Bool.not_true, Bool.not_false, oTup, oLst, splitL, List.cons_append, List.nil_append, e_gN, and_self, o_addI, o_subI, o_mulI, o_modI, o_neg, o_ltI, o_leI, o_gtI, o_geI, o_isN, o_nN, o_nB, o_nI, o_nS, o_nT, o_nL, o_nD, o_isB, o_itL, o_itT, o_listL, o_listT, o_tupL, o_tupT, o_lenL, o_lenT, o_lenS, o_abs, o_toInt, o_app, o_ixTn, o_ixLn, o_ixDct, o_inDct, o_setLn, o_setDct, o_sumL, o_sumT, o_ln0, o_ln1, o_ln2, o_ln3, o_ln4, o_ln5, o_ln6, o_ln7, o_ln8, o_ln9, o_ln10, o_ln11, o_ixT0, o_ixL0, o_setL0, o_ixT1, o_ixL1, o_setL1, o_ixT2, o_ixL2, o_setL2, o_ixT3, o_ixL3, o_setL3, o_ixT4, o_ixL4, o_setL4, o_ixT5, o_ixL5, o_setL5, o_ixT6, o_ixL6, o_setL6, o_ixT7, o_ixL7, o_setL7, o_ixT8, o_ixL8, o_setL8, o_ixT9, o_ixL9, o_setL9, o_divI, Option.map_some, Option.map_none, List.not_mem_nil, reduceIte, Bool.false_eq_true, List.mem_singleton, Nat.reduceLT, Nat.reduceLeDiff, Int.reduceLT, Int.reduceLE, Nat.reduceEqDiff, Int.reduceNeg, ix_B, eq_BB, eq_BK, eq_BR, ix_K, eq_KB, eq_KK, eq_KR, ix_N, eq_NB, eq_NK, eq_NR, ix_Q, eq_QB, eq_QK, eq_QR, ix_R, eq_RB, eq_RK, eq_RR, hb, hr, hk, false_or, and_self]
        rfl
      · simp only [e_vName, e_vC, e_rd, e_fz, e_op1, e_op2, e_aNil, e_aCons, e_aLast, e_opN, e_dsp, e_opC, e_vOr, e_vAnd, e_vNot, e_vIf, e_tst, e_tru, e_tAnd, e_tOr, e_tNot, e_opMt, e_ptNone, e_ptSome, e_opSl, e_opSt, e_callF, e_callIo, e_mMut, e_vDict0, e_vDict, e_dCons, e_dNil, e_sNil, e_sSeq, e_sIf, e_sRet, e_sRetN, e_sExpr, e_sBk, e_sCt, e_sSet, e_slF, e_sAsg, e_sPut, e_iSeq, e_iRange1, e_iRange2, e_iEnum, e_tstYes, e_gN0, e_gT, e_gsNil, e_gsCons, e_eqI, fzR, Rv.get, getA, allFz, appO, Out.rv, List.getElem?_cons_zero, List.getElem?_cons_succ, List.set_cons_zero, List.set_cons_succ, Nat.reduceAdd, List.length_cons, List.length_nil, if_true, if_false, one, decide_true, decide_false, Bool.xor_false, Bool.false_xor, Bool.true_xor, Bool.not_true, Bool.not_false, oTup, oLst, splitL, List.cons_append, List.nil_append, e_gN, and_self, o_addI, o_subI, o_mulI, o_modI, o_neg, o_ltI, o_leI, o_gtI, o_geI, o_isN, o_nN, o_nB, o_nI, o_nS, o_nT, o_nL, o_nD, o_isB, o_itL, o_itT, o_listL, o_listT, o_tupL, o_tupT, o_lenL, o_lenT, o_lenS, o_abs, o_toInt, o_app, o_ixTn, o_ixLn, o_ixDct, o_inDct, o_setLn, o_setDct, o_sumL, o_sumT, o_ln0, o_ln1, o_ln2, o_ln3, o_ln4, o_ln5, o_ln6, o_ln7, o_ln8, o_ln9, o_ln10, o_ln11, o_ixT0, o_ixL0, o_setL0, o_ixT1, o_ixL1, o_setL1, o_ixT2, o_ixL2, o_setL2, o_ixT3, o_ixL3, o_setL3, o_ixT4, o_ixL4, o_setL4, o_ixT5, o_ixL5, o_setL5, o_ixT6, o_ixL6, o_setL6, o_ixT7, o_ixL7, o_setL7, o_ixT8, o_ixL8, o_setL8, o_ixT9, o_ixL9, o_setL9, o_divI, Option.map_some, Option.map_none, List.not_mem_nil, reduceIte, Bool.false_eq_true, List.mem_singleton, Nat.reduceLT, Nat.reduceLeDiff, Int.reduceLT, Int.reduceLE, Nat.reduceEqDiff, Int.reduceNeg, ix_B, eq_BB, eq_BK, eq_BR, ix_K, eq_KB, eq_KK, eq_KR, ix_N, eq_NB, eq_NK, eq_NR, ix_Q, eq_QB, eq_QK, eq_QR, ix_R, eq_RB, eq_RK, eq_RR, hb, hr, hk, false_or, and_false]
        rfl
    · simp only [e_vName, e_vC, e_rd, e_fz, e_op1, e_op2, e_aNil, e_aCons, e_aLast, e_opN, e_dsp, e_opC, e_vOr, e_vAnd, e_vNot, e_vIf, e_tst, e_tru, e_tAnd, e_tOr, e_tNot, e_opMt, e_ptNone, e_ptSome, e_opSl, e_opSt, e_callF, e_callIo, e_mMut, e_vDict0, e_vDict, e_dCons, e_dNil, e_sNil, e_sSeq, e_sIf, e_sRet, e_sRetN, e_sExpr, e_sBk, e_sCt, e_sSet, e_slF, e_sAsg, e_sPut, e_iSeq, e_iRange1, e_iRange2, e_iEnum, e_tstYes, e_gN0, e_gT, e_gsNil, e_gsCons, e_eqI, fzR, Rv.get, getA, allFz, appO, Out.rv, List.getElem?_cons_zero, List.getElem?_cons_succ, List.set_cons_zero, List.set_cons_succ, Nat.reduceAdd, List.length_cons, List.length_nil, if_true, if_false, one, decide_true, decide_false, Bool.xor_false, Bool.false_xor, Bool.true_xor, Bool.not_true, Bool.not_false, oTup, oLst, splitL, List.cons_append, List.nil_append, e_gN, and_self, o_addI, o_subI, o_mulI, o_modI, o_neg, o_ltI, o_leI, o_gtI, o_geI, o_isN, o_nN, o_nB, o_nI, o_nS, o_nT, o_nL, o_nD, o_isB, o_itL, o_itT, o_listL, o_listT, o_tupL, o_tupT, o_lenL, o_lenT, o_lenS, o_abs, o_toInt, o_app, o_ixTn, o_ixLn, o_ixDct, o_inDct, o_setLn, o_setDct, o_sumL, o_sumT, o_ln0, o_ln1, o_ln2, o_ln3, o_ln4, o_ln5, o_ln6, o_ln7, o_ln8, o_ln9, o_ln10, o_ln11, o_ixT0, o_ixL0, o_setL0, o_ixT1, o_ixL1, o_setL1, o_ixT2, o_ixL2, o_setL2, o_ixT3, o_ixL3, o_setL3, o_ixT4, o_ixL4, o_setL4, o_ixT5, o_ixL5, o_setL5, o_ixT6, o_ixL6, o_setL6, o_ixT7, o_ixL7, o_setL7, o_ixT8, o_ixL8, o_setL8, o_ixT9, o_ixL9, o_setL9, o_divI, Option.map_some, Option.map_none, List.not_mem_nil, reduceIte, Bool.false_eq_true, List.mem_singleton, Nat.reduceLT, Nat.reduceLeDiff, Int.reduceLT, Int.reduceLE, Nat.reduceEqDiff, Int.reduceNeg, ix_B, eq_BB, eq_BK, eq_BR, ix_K, eq_KB, eq_KK, eq_KR, ix_N, eq_NB, eq_NK, eq_NR, ix_Q, eq_QB, eq_QK, eq_QR, ix_R, eq_RB, eq_RK, eq_RR, hb, hr, false_or, false_and]
      rfl
end K77
end

section
set_option autoImplicit false
namespace K77
open PySem PySem.Spec PyProof.Rows L2 T3
/-! ### states, ways -/
structure St where
  b : Nat
  k : Nat
  n : Nat
  q : Nat
  r : Nat
  rk : Nat
  g : Int
def dS (s : St) : T3.D := stD s.b s.k s.n s.q s.r s.rk s.g
def sg : Nat → Str
  | 0 => "B"
  | 1 => "K"
  | 2 => "N"
  | 3 => "Q"
  | _ => "R"
/-- behind the i-th sign; ev: at an even place -/
def stp (s : St) (ev : Bool) : Nat → Option St
  | 0 => if s.b = 0 then none else some { s with b := s.b - 1, g := s.g + (if ev = true then 1 else -1) }
  | 1 => if s.k = 0 ∨ ¬ s.rk = 1 then none else some { s with k := s.k - 1 }
  | 2 => if s.n = 0 then none else some { s with n := s.n - 1 }
  | 3 => if s.q = 0 then none else some { s with q := s.q - 1 }
  | _ => if s.r = 0 ∨ s.rk = 1 ∧ s.k = 1 then none else some { s with r := s.r - 1, rk := s.rk + 1 }
theorem stp0 (s : St) (ev : Bool) : stp s ev 0 = if s.b = 0 then none else some { s with b := s.b - 1, g := s.g + (if ev = true then 1 else -1) } := rfl
theorem stp1 (s : St) (ev : Bool) : stp s ev 1 = if s.k = 0 ∨ ¬ s.rk = 1 then none else some { s with k := s.k - 1 } := rfl
theorem stp2 (s : St) (ev : Bool) : stp s ev 2 = if s.n = 0 then none else some { s with n := s.n - 1 } := rfl
theorem stp3 (s : St) (ev : Bool) : stp s ev 3 = if s.q = 0 then none else some { s with q := s.q - 1 } := rfl
theorem stp4 (s : St) (ev : Bool) : stp s ev 4 = if s.r = 0 ∨ s.rk = 1 ∧ s.k = 1 then none else some { s with r := s.r - 1, rk := s.rk + 1 } := rfl
def dO (o : Option St) : T3.D := match o with
  | none => .none
  | some s => dS s
def evn (p : Nat) : Bool := decide (p % 2 = 0)
theorem nz {b : Nat} : ((b : Int) = 0) ↔ b = 0 := by omega
theorem n1 {b : Nat} : ((b : Int) = 1) ↔ b = 1 := by omega
theorem ev2 {p : Nat} : ((p : Int) % 2 = 0) ↔ p % 2 = 0 := by omega
theorem step_ok (s : St) (p : Nat) : ∀ i, i < 5 → F_step [dS s, .str (sg i), .int (p : Int)] = .ok (dO (stp s (evn p) i)) none := by
  intro i hi
  have hb : ∀ m : Nat, m ≠ 0 → ((m - 1 : Nat) : Int) = (m : Int) - 1 := fun m h => by omega
  rcases i with _ | _ | _ | _ | _ | i
  · refine (step_B _ _ _ _ _ _ _ _).trans ?_
    rw [stp0]
    unfold evn
    by_cases h : s.b = 0
    · rw [if_pos h, if_pos (nz.mpr h)]
      rfl
    · rw [if_neg h, if_neg (fun z => h (nz.mp z))]
      unfold dO dS
      simp only [hb _ h, ev2, decide_eq_true_eq]
  · refine (step_K _ _ _ _ _ _ _ _).trans ?_
    rw [stp1]
    by_cases h : s.k = 0 ∨ ¬ s.rk = 1
    · rw [if_pos h, if_pos (by rw [nz, n1]; exact h)]
      rfl
    · rw [if_neg h, if_neg (by rw [nz, n1]; exact h)]
      unfold dO dS
      simp only [hb _ (fun z => h (.inl z))]
  · refine (step_N _ _ _ _ _ _ _ _).trans ?_
    rw [stp2]
    by_cases h : s.n = 0
    · rw [if_pos h, if_pos (nz.mpr h)]
      rfl
    · rw [if_neg h, if_neg (fun z => h (nz.mp z))]
      unfold dO dS
      simp only [hb _ h]
  · refine (step_Q _ _ _ _ _ _ _ _).trans ?_
    rw [stp3]
    by_cases h : s.q = 0
    · rw [if_pos h, if_pos (nz.mpr h)]
      rfl
    · rw [if_neg h, if_neg (fun z => h (nz.mp z))]
      unfold dO dS
      simp only [hb _ h]
  · refine (step_R _ _ _ _ _ _ _ _).trans ?_
    rw [stp4]
    by_cases h : s.r = 0 ∨ s.rk = 1 ∧ s.k = 1
    · rw [if_pos h, if_pos (by rw [nz, n1, n1]; exact h)]
      rfl
    · rw [if_neg h, if_neg (by rw [nz, n1, n1]; exact h)]
      unfold dO dS
      have e : ((s.rk + 1 : Nat) : Int) = (s.rk : Int) + 1 := by omega
      simp only [hb _ (fun z => h (.inl z)), e]
  · omega
def tot (s : St) : Nat := s.b + s.k + s.n + s.q + s.r
theorem stp_tot {s s' : St} {ev : Bool} {i : Nat} (h : stp s ev i = some s') : tot s = tot s' + 1 := by
  have c : ∀ {c : Prop} [Decidable c] {t : St}, (if c then none else some t) = some s' → ¬ c ∧ t = s' := fun {c} _ {t} h => by
    split at h
    · cases h
    · cases h; exact ⟨by assumption, rfl⟩
  rcases i with _ | _ | _ | _ | i
  · obtain ⟨h1, h2⟩ := c (show (if s.b = 0 then none else some { s with b := s.b - 1, g := s.g + (if ev = true then 1 else -1) }) = some s' from h)
    subst h2
    unfold tot
    dsimp only
    omega
  · obtain ⟨h1, h2⟩ := c (show (if s.k = 0 ∨ ¬ s.rk = 1 then none else some { s with k := s.k - 1 }) = some s' from h)
    subst h2
    unfold tot
    dsimp only
    omega
  · obtain ⟨h1, h2⟩ := c (show (if s.n = 0 then none else some { s with n := s.n - 1 }) = some s' from h)
    subst h2
    unfold tot
    dsimp only
    omega
  · obtain ⟨h1, h2⟩ := c (show (if s.q = 0 then none else some { s with q := s.q - 1 }) = some s' from h)
    subst h2
    unfold tot
    dsimp only
    omega
  · obtain ⟨h1, h2⟩ := c (show (if s.r = 0 ∨ s.rk = 1 ∧ s.k = 1 then none else some { s with r := s.r - 1, rk := s.rk + 1 }) = some s' from h)
    subst h2
    unfold tot
    dsimp only
    omega
/-- the ways to go on for L signs -/
def ways : Nat → St → Bool → Nat
  | 0, s, _ => if s.g ≤ 1 ∧ -1 ≤ s.g then 1 else 0
  | L + 1, s, ev => (List.range 5).foldl (fun a i => a + match stp s ev i with
      | none => 0
      | some s' => ways L s' (!ev)) 0
/-! ### what is known -/
def keyD (s : St) (p : Nat) : T3.D := .tuple [dS s, .int (p : Int)]
def nkS (s : St) (p : Nat) : NestedKey := .tup [.tup [.tup [.num s.b, .num s.k, .num s.n, .num s.q, .num s.r], .num s.rk, .num s.g], .num p]
theorem keyOf_key (s : St) (p : Nat) : keyOf (keyD s p) = some (nkS s p) := rfl
theorem tupKey_key (s : St) (p : Nat) : tupKey (keyD s p) = some (nkS s p) := rfl
theorem leaf_key' (s : St) (p : Nat) : leafOf (keyD s p) = none := rfl
theorem nkS_inj {s s' : St} {p p' : Nat} (h : nkS s p = nkS s' p') : s = s' ∧ p = p' := by
  obtain ⟨b, k, n, q, r, rk, g⟩ := s
  obtain ⟨b', k', n', q', r', rk', g'⟩ := s'
  unfold nkS at h
  simp only [NestedKey.tup.injEq, List.cons.injEq, NestedKey.num.injEq, and_true] at h
  obtain ⟨⟨⟨h1, h2, h3, h4, h5⟩, h6, h7⟩, h8⟩ := h
  refine ⟨?_, by omega⟩
  have : b = b' := by omega
  have : k = k' := by omega
  have : n = n' := by omega
  have : q = q' := by omega
  have : r = r' := by omega
  have : rk = rk' := by omega
  subst_vars
  rfl
def Good (kvs : List (T3.D × T3.D)) : Prop := ∀ q ∈ kvs, ∃ (s : St) (p : Nat), p < 2 ∧ q.1 = keyD s p ∧ q.2 = .int (ways (tot s) s (evn p) : Nat)
theorem Good.isK {kvs : List (T3.D × T3.D)} (h : Good kvs) (s : St) (p : Nat) : isK kvs (keyD s p) = some (nkS s p) := by
  unfold T3.isK
  rw [leaf_key', tupKey_key]
  dsimp only
  rw [if_pos]
  rw [List.all_eq_true]
  intro q hq
  obtain ⟨s', p', _, e, _⟩ := h q hq
  rw [e, tupKey_key]
  rfl
theorem Good.get : ∀ {kvs : List (T3.D × T3.D)}, Good kvs → ∀ (s : St) (p : Nat) (v : T3.D), dget kvs (nkS s p) = some v → v = .int (ways (tot s) s (evn p) : Nat)
  | [], _, s, p, v, e => by cases e
  | q :: kvs, h, s, p, v, e => by
    unfold dget at e
    obtain ⟨s', p', _, e1, e2⟩ := h q List.mem_cons_self
    by_cases hk : keyOf q.1 = some (nkS s p)
    · rw [List.find?_cons_of_pos (by simpa using hk)] at e
      cases e
      rw [e1, keyOf_key] at hk
      obtain ⟨rfl, rfl⟩ := nkS_inj (Option.some.inj hk)
      exact e2
    · rw [List.find?_cons_of_neg (by simpa using hk)] at e
      exact Good.get (fun x hx => h x (List.mem_cons_of_mem _ hx)) s p v e
theorem Good.put {kvs : List (T3.D × T3.D)} (h : Good kvs) (s : St) (p : Nat) (hp : p < 2) : Good (dput kvs (nkS s p) (keyD s p) (.int (ways (tot s) s (evn p) : Nat))) := by
  unfold dput
  split
  · intro q hq
    obtain ⟨q0, hq0, e⟩ := List.mem_map.mp hq
    obtain ⟨s', p', h1, h2, h3⟩ := h q0 hq0
    split at e
    · rename_i hk
      rw [h2, keyOf_key] at hk
      obtain ⟨rfl, rfl⟩ := nkS_inj (Option.some.inj hk)
      rw [← e]
      exact ⟨s', p', h1, h2, rfl⟩
    · rw [← e]
      exact ⟨s', p', h1, h2, h3⟩
  · intro q hq
    rcases List.mem_append.mp hq with hq | hq
    · exact h q hq
    · rw [List.mem_singleton] at hq
      subst hq
      exact ⟨s, p, hp, rfl, rfl⟩
theorem dput_length (kvs : List (T3.D × T3.D)) (nk : NestedKey) (k v : T3.D) : (dput kvs nk k v).length ≤ kvs.length + 1 := by
  unfold dput
  split
  · rw [List.length_map]; omega
  · rw [List.length_append]; exact Nat.le_refl _
theorem dget_put (kvs : List (T3.D × T3.D)) (nk : NestedKey) (k v : T3.D) (hk : keyOf k = some nk) : dget (dput kvs nk k v) nk = some v := by
  unfold dput
  split
  · rename_i h
    induction kvs with
    | nil => cases h
    | cons q kvs ih =>
      rw [List.map_cons]
      unfold dget
      by_cases e : keyOf q.1 = some nk
      · rw [if_pos e, List.find?_cons_of_pos (by simpa using e)]
        rfl
      · rw [if_neg e, List.find?_cons_of_neg (by simpa using e)]
        refine ih ?_
        rw [List.any_cons] at h
        simpa [e] using h
  · rename_i h
    induction kvs with
    | nil => unfold dget; rw [List.nil_append, List.find?_cons_of_pos (by simpa using hk)]; rfl
    | cons q kvs ih =>
      rw [List.any_cons] at h
      have e : ¬ keyOf q.1 = some nk := fun z => h (by simp [z])
      unfold dget
      rw [List.cons_append, List.find?_cons_of_neg (by simpa using e)]
      exact ih fun z => h (by simp [z])
/-- how many are known more behind a call -/
def Ad : Nat → Nat
  | 0 => 0
  | L + 1 => 1 + 5 * Ad L
end K77
end

section
set_option autoImplicit false
namespace K77
open PySem PySem.Spec PyProof.Rows L2 T3
def bodyW (rec : List T3.D → FR) : SX := sSeq (sSet [2] 6 (callF false (F_step) (aCons (fz [2] (vName 0)) (aCons (fz [2] (vName 5)) (aCons (fz [2] (vName 1)) (aNil))))))
    (sIf (tst (op2 (pIs true) (vName 6) (vC .none))) (sSet [2] 4 (op2 pAdd (vName 4) (callIo false (rec) (aCons (vName 6) (aCons (op2 pAdd (vName 1) (vC (.int 1))) (aLast (vName 2))))))) (sNil))
/-- the slots within the loop -/
def En7 (s : St) (p : Nat) (f : Nat) (kvs : List (T3.D × T3.D)) (x y : Slot) : En := [.fz (dS s), .fz (.int (p : Int)), .ow (.dict kvs), .fz (keyD s (p % 2)), .fz (.int (f : Int)), x, y]
theorem m12 : ¬ (4 = 2) := by decide
theorem m62 : ¬ (6 = 2) := by decide
theorem m02 : ¬ (0 = 2) := by decide
theorem m32 : ¬ (3 = 2) := by decide
theorem m52 : ¬ (5 = 2) := by decide
theorem evn_succ (p : Nat) : evn (p + 1) = !evn p := by
  unfold evn
  rcases Nat.mod_two_eq_zero_or_one p with h | h
  · rw [show decide (p % 2 = 0) = true from decide_eq_true h]
    exact decide_eq_false (by omega)
  · rw [show decide (p % 2 = 0) = false from decide_eq_false (by omega)]
    exact decide_eq_true (by omega)
theorem isN_dS (s : St) : isNone (dS s) = false := rfl
abbrev WaysOk (n : Nat) : Prop := ∀ (s : St) (p : Nat) (kvs : List (T3.D × T3.D)), tot s < n → Good kvs → kvs.length + Ad (tot s) ≤ line →
  ∃ kvs', F_ways_from n [dS s, .int (p : Int), .dict kvs] = .ok (.int (ways (tot s) s (evn p) : Nat)) (some (.dict kvs')) ∧ Good kvs' ∧ kvs'.length ≤ kvs.length + Ad (tot s)
/-- what the i-th sign adds -/
def wi (L : Nat) (s : St) (ev : Bool) (i : Nat) : Nat := match stp s ev i with
  | none => 0
  | some s' => ways L s' (!ev)
theorem iter {n L : Nat} {s : St} {p : Nat} (IH : WaysOk n) (hL : tot s = L + 1) (hn : L < n) {i : Nat} (hi : i < 5) {f : Nat} {kvs : List (T3.D × T3.D)} (hg : Good kvs) (hl : kvs.length + Ad L ≤ line) (y : Slot) :
    ∃ kvs' y', bodyW (F_ways_from n) (En7 s p f kvs (.fz (.str (sg i))) y) = .nx (En7 s p (f + wi L s (evn p) i) kvs' (.fz (.str (sg i))) y') ∧ Good kvs' ∧ kvs'.length ≤ kvs.length + Ad L := by
  have st := step_ok s p i hi
  unfold bodyW En7
  cases h : stp s (evn p) i with
  | none =>
    rw [h] at st
    refine ⟨kvs, .fz .none, ?_, hg, by omega⟩
    simp only [e_vName, e_vC, e_rd, e_fz, e_op1, e_op2, e_aNil, e_aCons, e_aLast, e_opN, e_dsp, e_opC, e_vOr, e_vAnd, e_vNot, e_vIf, e_tst, e_tru, e_tAnd, e_tOr, e_tNot, e_opMt, e_ptNone, e_ptSome, e_opSl, e_opSt, e_callF, e_callIo, e_mMut, e_vDict0, e_vDict, e_dCons, e_dNil, e_sNil, e_sSeq, e_sIf, e_sRet, e_sRetN, e_sExpr, e_sBk, e_sCt, e_sSet, e_slF, e_sAsg, e_sPut, e_iSeq, e_iRange1, e_iRange2, e_iEnum, e_tstYes, e_gN0, e_gT, e_gsNil, e_gsCons, e_eqI, fzR, Rv.get, getA, allFz, appO, Out.rv, List.getElem?_cons_zero, List.getElem?_cons_succ, List.set_cons_zero, List.set_cons_succ, Nat.reduceAdd, List.length_cons, List.length_nil, if_true, if_false, one, decide_true, decide_false, Bool.xor_false, Bool.false_xor, Bool.true_xor, Bool.not_true, Bool.not_false, oTup, oLst, splitL, List.cons_append, List.nil_append, e_gN, and_self, o_addI, o_subI, o_mulI, o_modI, o_neg, o_ltI, o_leI, o_gtI, o_geI, o_isN, o_nN, o_nB, o_nI, o_nS, o_nT, o_nL, o_nD, o_isB, o_itL, o_itT, o_listL, o_listT, o_tupL, o_tupT, o_lenL, o_lenT, o_lenS, o_abs, o_toInt, o_app, o_ixTn, o_ixLn, o_ixDct, o_inDct, o_setLn, o_setDct, o_sumL, o_sumT, o_ln0, o_ln1, o_ln2, o_ln3, o_ln4, o_ln5, o_ln6, o_ln7, o_ln8, o_ln9, o_ln10, o_ln11, o_ixT0, o_ixL0, o_setL0, o_ixT1, o_ixL1, o_setL1, o_ixT2, o_ixL2, o_setL2, o_ixT3, o_ixL3, o_setL3, o_ixT4, o_ixL4, o_setL4, o_ixT5, o_ixL5, o_setL5, o_ixT6, o_ixL6, o_setL6, o_ixT7, o_ixL7, o_setL7, o_ixT8, o_ixL8, o_setL8, o_ixT9, o_ixL9, o_setL9, o_divI, Option.map_some, Option.map_none, List.not_mem_nil, reduceIte, Bool.false_eq_true, List.mem_singleton, Nat.reduceLT, Nat.reduceLeDiff, Int.reduceLT, Int.reduceLE, Nat.reduceEqDiff, Int.reduceNeg, st, dO, m62, m02, m52]
    unfold wi
    rw [h]
    rfl
  | some s' =>
    rw [h] at st
    have ht := stp_tot h
    have hs' : tot s' = L := by omega
    obtain ⟨kvs', e1, e2, e3⟩ := IH s' (p + 1) kvs (by omega) hg (by rw [hs']; exact hl)
    rw [hs'] at e1 e3
    refine ⟨kvs', .fz (dS s'), ?_, e2, e3⟩
    have pc : ((p : Int) + 1) = ((p + 1 : Nat) : Int) := by omega
    simp only [e_vName, e_vC, e_rd, e_fz, e_op1, e_op2, e_aNil, e_aCons, e_aLast, e_opN, e_dsp, e_opC, e_vOr, e_vAnd, e_vNot, e_vIf, e_tst, e_tru, e_tAnd, e_tOr, e_tNot, e_opMt, e_ptNone, e_ptSome, e_opSl, e_opSt, e_callF, e_callIo, e_mMut, e_vDict0, e_vDict, e_dCons, e_dNil, e_sNil, e_sSeq, e_sIf, e_sRet, e_sRetN, e_sExpr, e_sBk, e_sCt, e_sSet, e_slF, e_sAsg, e_sPut, e_iSeq, e_iRange1, e_iRange2, e_iEnum, e_tstYes, e_gN0, e_gT, e_gsNil, e_gsCons, e_eqI, fzR, Rv.get, getA, allFz, appO, Out.rv, List.getElem?_cons_zero, List.getElem?_cons_succ, List.set_cons_zero, List.set_cons_succ, Nat.reduceAdd, List.length_cons, List.length_nil, if_true, if_false, one, decide_true, decide_false, Bool.xor_false, Bool.false_xor, Bool.true_xor, Bool.not_true, Bool.not_false, oTup, oLst, splitL, List.cons_append, List.nil_append, e_gN, and_self, o_addI, o_subI, o_mulI, o_modI, o_neg, o_ltI, o_leI, o_gtI, o_geI, o_isN, o_nN, o_nB, o_nI, o_nS, o_nT, o_nL, o_nD, o_isB, o_itL, o_itT, o_listL, o_listT, o_tupL, o_tupT, o_lenL, o_lenT, o_lenS, o_abs, o_toInt, o_app, o_ixTn, o_ixLn, o_ixDct, o_inDct, o_setLn, o_setDct, o_sumL, o_sumT, o_ln0, o_ln1, o_ln2, o_ln3, o_ln4, o_ln5, o_ln6, o_ln7, o_ln8, o_ln9, o_ln10, o_ln11, o_ixT0, o_ixL0, o_setL0, o_ixT1, o_ixL1, o_setL1, o_ixT2, o_ixL2, o_setL2, o_ixT3, o_ixL3, o_setL3, o_ixT4, o_ixL4, o_setL4, o_ixT5, o_ixL5, o_setL5, o_ixT6, o_ixL6, o_setL6, o_ixT7, o_ixL7, o_setL7, o_ixT8, o_ixL8, o_setL8, o_ixT9, o_ixL9, o_setL9, o_divI, Option.map_some, Option.map_none, List.not_mem_nil, reduceIte, Bool.false_eq_true, List.mem_singleton, Nat.reduceLT, Nat.reduceLeDiff, Int.reduceLT, Int.reduceLE, Nat.reduceEqDiff, Int.reduceNeg, st, dO, m62, m02, m52, m12, isN_dS, splitL, pc, e1]
    unfold wi
    rw [h, evn_succ]
    have fc : ((f + ways L s' (!evn p) : Nat) : Int) = (f : Int) + (ways L s' (!evn p) : Nat) := by omega
    dsimp only
    rw [fc]
theorem items5 : itemsOf (.str "BKNQR") = some [.str (sg 0), .str (sg 1), .str (sg 2), .str (sg 3), .str (sg 4)] := by kernel_rfl
theorem ways_succ (L : Nat) (s : St) (ev : Bool) : ways (L + 1) s ev = 0 + wi L s ev 0 + wi L s ev 1 + wi L s ev 2 + wi L s ev 3 + wi L s ev 4 := rfl
theorem sum_left (s : St) : pSum [.tuple [.int (s.b : Int), .int (s.k : Int), .int (s.n : Int), .int (s.q : Int), .int (s.r : Int)]] = some (.fz (.int (tot s : Nat))) := by
  have h := o_sumT [(s.b : Int), s.k, s.n, s.q, s.r]
  have e : ([(s.b : Int), s.k, s.n, s.q, s.r] : List Int).sum = (tot s : Nat) := by
    unfold tot
    simp only [List.sum_cons, List.sum_nil]
    omega
  rw [e] at h
  exact h
theorem loop5 {n L : Nat} {s : St} {p : Nat} (IH : WaysOk n) (hL : tot s = L + 1) (hn : L < n) {kvs : List (T3.D × T3.D)} (hg : Good kvs) (hl : kvs.length + 5 * Ad L ≤ line) :
    ∃ kvs' x' y', fl (gN [2] 5) (bodyW (F_ways_from n)) [.str (sg 0), .str (sg 1), .str (sg 2), .str (sg 3), .str (sg 4)] (En7 s p 0 kvs .non .non) = .nx (En7 s p (ways (L + 1) s (evn p)) kvs' x' y') ∧ Good kvs' ∧ kvs'.length ≤ kvs.length + 5 * Ad L := by
  have gn : ∀ (d : T3.D) (f : Nat) (kvs : List (T3.D × T3.D)) (x y : Slot), gN [2] 5 d (En7 s p f kvs x y) = some (En7 s p f kvs (.fz d) y) := fun d f kvs x y => rfl
  obtain ⟨k1, y1, e1, g1, l1⟩ := iter (p := p) IH hL hn (i := 0) (by decide) (f := 0) hg (by omega) .non
  obtain ⟨k2, y2, e2, g2, l2⟩ := iter (p := p) IH hL hn (i := 1) (by decide) (f := 0 + wi L s (evn p) 0) g1 (by omega) y1
  obtain ⟨k3, y3, e3, g3, l3⟩ := iter (p := p) IH hL hn (i := 2) (by decide) (f := 0 + wi L s (evn p) 0 + wi L s (evn p) 1) g2 (by omega) y2
  obtain ⟨k4, y4, e4, g4, l4⟩ := iter (p := p) IH hL hn (i := 3) (by decide) (f := 0 + wi L s (evn p) 0 + wi L s (evn p) 1 + wi L s (evn p) 2) g3 (by omega) y3
  obtain ⟨k5, y5, e5, g5, l5⟩ := iter (p := p) IH hL hn (i := 4) (by decide) (f := 0 + wi L s (evn p) 0 + wi L s (evn p) 1 + wi L s (evn p) 2 + wi L s (evn p) 3) g4 (by omega) y4
  refine ⟨k5, .fz (.str (sg 4)), y5, ?_, g5, by omega⟩
  rw [e_flC, gn]
  dsimp only
  rw [e1]
  dsimp only
  rw [e_flC, gn]
  dsimp only
  rw [e2]
  dsimp only
  rw [e_flC, gn]
  dsimp only
  rw [e3]
  dsimp only
  rw [e_flC, gn]
  dsimp only
  rw [e4]
  dsimp only
  rw [e_flC, gn]
  dsimp only
  rw [e5]
  dsimp only
  rw [e_flN, ways_succ]
def bodyA (rec : List T3.D → FR) : SX := sSeq (sIf (tst (op2 (pEq false) (opN pSum (aLast (op2 pIxA (vName 0) (vC (.int 0))))) (vC (.int 0)))) (sRet (vIf (tst (op2 pLe (opN (one pAbs) (aLast (op2 pIxA (vName 0) (vC (.int 2))))) (vC (.int 1)))) (vC (.int 1)) (vC (.int 0)))) (sNil))
  (sSeq (sSet [2] 3 (dsp oTup (aCons (vName 0) (aLast (op2 pMod (vName 1) (vC (.int 2)))))))
  (sSeq (sIf (tst (op2 (pInA true) (vName 3) (vName 2))) (sSeq (sSet [2] 4 (vC (.int 0)))
    (sSeq (sFor (iSeq [2] (vC (.str "BKNQR"))) (gN [2] 5) (bodyW rec))
    (sPut [2] opSetA 2 (vName 3) (vName 4)))) (sNil))
  (sRet (op2 pIxA (vName 2) (vName 3)))))
theorem bodyA_eq (rec : List T3.D → FR) : B_ways_from rec = bodyA rec := rfl
theorem ways_ok : ∀ n, WaysOk n
  | 0, s, p, kvs, h, _, _ => absurd h (Nat.not_lt_zero _)
  | n + 1, s, p, kvs, h, hg, hl => by
    have IH := ways_ok n
    show ∃ kvs', mkFn 3 7 true false (B_ways_from (F_ways_from n)) _ = _ ∧ _
    have hb := bodyA_eq (F_ways_from n)
    unfold mkFn
    rw [if_pos ⟨rfl, fun _ => by simp⟩, hb]
    unfold bodyA
    have e : (mkE true [dS s, .int (p : Int), .dict kvs] ++ List.replicate (7 - 3) Slot.non) = [.fz (dS s), .fz (.int (p : Int)), .ow (.dict kvs), .non, .non, .non, .non] := rfl
    rw [e]
    clear e hb
    cases hL : tot s with
    | zero =>
      refine ⟨kvs, ?_, hg, by omega⟩
      have sl := sum_left s
      rw [hL] at sl
      have hw : ∀ c : Prop, [Decidable c] → (c ↔ s.g ≤ 1 ∧ -1 ≤ s.g) → ways 0 s (evn p) = if c then 1 else 0 := fun c _ hc => by
        unfold ways
        by_cases h : c
        · rw [if_pos h, if_pos (hc.mp h)]
        · rw [if_neg h, if_neg fun z => h (hc.mpr z)]
      rw [hw ((if s.g < 0 then -s.g else s.g) ≤ 1) (by split <;> omega)]
      by_cases h1 : (if s.g < 0 then -s.g else s.g) ≤ 1
      · unfold dS stD
        simp only [e_vName, e_vC, e_rd, e_fz, e_op1, e_op2, e_aNil, e_aCons, e_aLast, e_opN, e_dsp, e_opC, e_vOr, e_vAnd, e_vNot, e_vIf, e_tst, e_tru, e_tAnd, e_tOr, e_tNot, e_opMt, e_ptNone, e_ptSome, e_opSl, e_opSt, e_callF, e_callIo, e_mMut, e_vDict0, e_vDict, e_dCons, e_dNil, e_sNil, e_sSeq, e_sIf, e_sRet, e_sRetN, e_sExpr, e_sBk, e_sCt, e_sSet, e_slF, e_sAsg, e_sPut, e_iSeq, e_iRange1, e_iRange2, e_iEnum, e_tstYes, e_gN0, e_gT, e_gsNil, e_gsCons, e_eqI, fzR, Rv.get, getA, allFz, appO, Out.rv, List.getElem?_cons_zero, List.getElem?_cons_succ, List.set_cons_zero, List.set_cons_succ, Nat.reduceAdd, List.length_cons, List.length_nil, if_true, if_false, one, decide_true, decide_false, Bool.xor_false, Bool.false_xor, Bool.true_xor, Bool.not_true, Bool.not_false, oTup, oLst, splitL, List.cons_append, List.nil_append, e_gN, and_self, o_addI, o_subI, o_mulI, o_modI, o_neg, o_ltI, o_leI, o_gtI, o_geI, o_isN, o_nN, o_nB, o_nI, o_nS, o_nT, o_nL, o_nD, o_isB, o_itL, o_itT, o_listL, o_listT, o_tupL, o_tupT, o_lenL, o_lenT, o_lenS, o_abs, o_toInt, o_app, o_ixTn, o_ixLn, o_ixDct, o_inDct, o_setLn, o_setDct, o_sumL, o_sumT, o_ln0, o_ln1, o_ln2, o_ln3, o_ln4, o_ln5, o_ln6, o_ln7, o_ln8, o_ln9, o_ln10, o_ln11, o_ixT0, o_ixL0, o_setL0, o_ixT1, o_ixL1, o_setL1, o_ixT2, o_ixL2, o_setL2, o_ixT3, o_ixL3, o_setL3, o_ixT4, o_ixL4, o_setL4, o_ixT5, o_ixL5, o_setL5, o_ixT6, o_ixL6, o_setL6, o_ixT7, o_ixL7, o_setL7, o_ixT8, o_ixL8, o_setL8, o_ixT9, o_ixL9, o_setL9, o_divI, Option.map_some, Option.map_none, List.not_mem_nil, reduceIte, Bool.false_eq_true, List.mem_singleton, Nat.reduceLT, Nat.reduceLeDiff, Int.reduceLT, Int.reduceLE, Nat.reduceEqDiff, Int.reduceNeg, sl, h1, Int.natCast_zero]
        rfl
      · unfold dS stD
        simp only [e_vName, e_vC, e_rd, e_fz, e_op1, e_op2, e_aNil, e_aCons, e_aLast, e_opN, e_dsp, e_opC, e_vOr, e_vAnd, e_vNot, e_vIf, e_tst, e_tru, e_tAnd, e_tOr, e_tNot, e_opMt, e_ptNone, e_ptSome, e_opSl, e_opSt, e_callF, e_callIo, e_mMut, e_vDict0, e_vDict, e_dCons, e_dNil, e_sNil, e_sSeq, e_sIf, e_sRet, e_sRetN, e_sExpr, e_sBk, e_sCt, e_sSet, e_slF, e_sAsg, e_sPut, e_iSeq, e_iRange1, e_iRange2, e_iEnum, e_tstYes, e_gN0, e_gT, e_gsNil, e_gsCons, e_eqI, fzR, Rv.get, getA, allFz, appO, Out.rv, List.getElem?_cons_zero, List.getElem?_cons_succ, List.set_cons_zero, List.set_cons_succ, Nat.reduceAdd, List.length_cons, List.length_nil, if_true, if_false, one, decide_true, decide_false, Bool.xor_false, Bool.false_xor, Bool.true_xor, Bool.not_true, Bool.not_false, oTup, oLst, splitL, List.cons_append, List.nil_append, e_gN, and_self, o_addI, o_subI, o_mulI, o_modI, o_neg, o_ltI, o_leI, o_gtI, o_geI, o_isN, o_nN, o_nB, o_nI, o_nS, o_nT, o_nL, o_nD, o_isB, o_itL, o_itT, o_listL, o_listT, o_tupL, o_tupT, o_lenL, o_lenT, o_lenS, o_abs, o_toInt, o_app, o_ixTn, o_ixLn, o_ixDct, o_inDct, o_setLn, o_setDct, o_sumL, o_sumT, o_ln0, o_ln1, o_ln2, o_ln3, o_ln4, o_ln5, o_ln6, o_ln7, o_ln8, o_ln9, o_ln10, o_ln11, o_ixT0, o_ixL0, o_setL0, o_ixT1, o_ixL1, o_setL1, o_ixT2, o_ixL2, o_setL2, o_ixT3, o_ixL3, o_setL3, o_ixT4, o_ixL4, o_setL4, o_ixT5, o_ixL5, o_setL5, o_ixT6, o_ixL6, o_setL6, o_ixT7, o_ixL7, o_setL7, o_ixT8, o_ixL8, o_setL8, o_ixT9, o_ixL9, o_setL9, o_divI, Option.map_some, Option.map_none, List.not_mem_nil, reduceIte, Bool.false_eq_true, List.mem_singleton, Nat.reduceLT, Nat.reduceLeDiff, Int.reduceLT, Int.reduceLE, Nat.reduceEqDiff, Int.reduceNeg, sl, h1, Int.natCast_zero]
        rfl
    | succ L =>
      have hn : L < n := by omega
      have sl := sum_left s
      rw [hL] at sl hl
      have hA : Ad (L + 1) = 1 + 5 * Ad L := rfl
      have i0 : pIxA (dS s) (.int 0) = some (.fz (.tuple [.int (s.b : Int), .int (s.k : Int), .int (s.n : Int), .int (s.q : Int), .int (s.r : Int)])) := rfl
      have z1 : ¬ ((L + 1 : Nat) : Int) = 0 := by omega
      have pm : (p : Int) % 2 = ((p % 2 : Nat) : Int) := by omega
      have kd : (PyData.tuple [dS s, .int ((p % 2 : Nat) : Int)]) = keyD s (p % 2) := rfl
      have ev : evn (p % 2) = evn p := by unfold evn; rw [Nat.mod_mod]
      have ik := hg.isK s (p % 2)
      cases hd : dget kvs (nkS s (p % 2)) with
      | some v =>
        have hv := hg.get s (p % 2) v hd
        rw [ev, hL] at hv
        refine ⟨kvs, ?_, hg, by omega⟩
        simp only [e_vName, e_vC, e_rd, e_fz, e_op1, e_op2, e_aNil, e_aCons, e_aLast, e_opN, e_dsp, e_opC, e_vOr, e_vAnd, e_vNot, e_vIf, e_tst, e_tru, e_tAnd, e_tOr, e_tNot, e_opMt, e_ptNone, e_ptSome, e_opSl, e_opSt, e_callF, e_callIo, e_mMut, e_vDict0, e_vDict, e_dCons, e_dNil, e_sNil, e_sSeq, e_sIf, e_sRet, e_sRetN, e_sExpr, e_sBk, e_sCt, e_sSet, e_slF, e_sAsg, e_sPut, e_iSeq, e_iRange1, e_iRange2, e_iEnum, e_tstYes, e_gN0, e_gT, e_gsNil, e_gsCons, e_eqI, fzR, Rv.get, getA, allFz, appO, Out.rv, List.getElem?_cons_zero, List.getElem?_cons_succ, List.set_cons_zero, List.set_cons_succ, Nat.reduceAdd, List.length_cons, List.length_nil, if_true, if_false, one, decide_true, decide_false, Bool.xor_false, Bool.false_xor, Bool.true_xor, Bool.not_true, Bool.not_false, oTup, oLst, splitL, List.cons_append, List.nil_append, e_gN, and_self, o_addI, o_subI, o_mulI, o_modI, o_neg, o_ltI, o_leI, o_gtI, o_geI, o_isN, o_nN, o_nB, o_nI, o_nS, o_nT, o_nL, o_nD, o_isB, o_itL, o_itT, o_listL, o_listT, o_tupL, o_tupT, o_lenL, o_lenT, o_lenS, o_abs, o_toInt, o_app, o_ixTn, o_ixLn, o_ixDct, o_inDct, o_setLn, o_setDct, o_sumL, o_sumT, o_ln0, o_ln1, o_ln2, o_ln3, o_ln4, o_ln5, o_ln6, o_ln7, o_ln8, o_ln9, o_ln10, o_ln11, o_ixT0, o_ixL0, o_setL0, o_ixT1, o_ixL1, o_setL1, o_ixT2, o_ixL2, o_setL2, o_ixT3, o_ixL3, o_setL3, o_ixT4, o_ixL4, o_setL4, o_ixT5, o_ixL5, o_setL5, o_ixT6, o_ixL6, o_setL6, o_ixT7, o_ixL7, o_setL7, o_ixT8, o_ixL8, o_setL8, o_ixT9, o_ixL9, o_setL9, o_divI, Option.map_some, Option.map_none, List.not_mem_nil, reduceIte, Bool.false_eq_true, List.mem_singleton, Nat.reduceLT, Nat.reduceLeDiff, Int.reduceLT, Int.reduceLE, Nat.reduceEqDiff, Int.reduceNeg, sl, i0, z1, pm, kd, m32, ik, hd, Option.isSome_some]
        rw [hv]
        rfl
      | none =>
        obtain ⟨k2, x2, y2, e2, g2, l2⟩ := loop5 (p := p) IH hL hn hg (by omega)
        have e3 : fl (gN [2] 5) (bodyW (F_ways_from n)) [.str (sg 0), .str (sg 1), .str (sg 2), .str (sg 3), .str (sg 4)] [.fz (dS s), .fz (.int (p : Int)), .ow (.dict kvs), .fz (keyD s (p % 2)), .fz (.int 0), .non, .non] = .nx [.fz (dS s), .fz (.int (p : Int)), .ow (.dict k2), .fz (keyD s (p % 2)), .fz (.int ((ways (L + 1) s (evn p) : Nat) : Int)), x2, y2] := e2
        have g3 := g2.put s (p % 2) (Nat.mod_lt _ (by decide))
        rw [ev, hL] at g3
        have l3 := dput_length k2 (nkS s (p % 2)) (keyD s (p % 2)) (.int (ways (L + 1) s (evn p) : Nat))
        refine ⟨dput k2 (nkS s (p % 2)) (keyD s (p % 2)) (.int (ways (L + 1) s (evn p) : Nat)), ?_, g3, by omega⟩
        have lt : k2.length < line := by omega
        have e4 : sFor (iSeq [2] (vC (.str "BKNQR"))) (gN [2] 5) (bodyW (F_ways_from n)) [.fz (dS s), .fz (.int (p : Int)), .ow (.dict kvs), .fz (keyD s (p % 2)), .fz (.int 0), .non, .non] = _ := for_ok (by simp only [e_vName, e_vC, e_rd, e_fz, e_op1, e_op2, e_aNil, e_aCons, e_aLast, e_opN, e_dsp, e_opC, e_vOr, e_vAnd, e_vNot, e_vIf, e_tst, e_tru, e_tAnd, e_tOr, e_tNot, e_opMt, e_ptNone, e_ptSome, e_opSl, e_opSt, e_callF, e_callIo, e_mMut, e_vDict0, e_vDict, e_dCons, e_dNil, e_sNil, e_sSeq, e_sIf, e_sRet, e_sRetN, e_sExpr, e_sBk, e_sCt, e_sSet, e_slF, e_sAsg, e_sPut, e_iSeq, e_iRange1, e_iRange2, e_iEnum, e_tstYes, e_gN0, e_gT, e_gsNil, e_gsCons, e_eqI, fzR, Rv.get, getA, allFz, appO, Out.rv, List.getElem?_cons_zero, List.getElem?_cons_succ, List.set_cons_zero, List.set_cons_succ, Nat.reduceAdd, List.length_cons, List.length_nil, if_true, if_false, one, decide_true, decide_false, Bool.xor_false, Bool.false_xor, Bool.true_xor, Bool.not_true, Bool.not_false, oTup, oLst, splitL, List.cons_append, List.nil_append, e_gN, and_self, o_addI, o_subI, o_mulI, o_modI, o_neg, o_ltI, o_leI, o_gtI, o_geI, o_isN, o_nN, o_nB, o_nI, o_nS, o_nT, o_nL, o_nD, o_isB, o_itL, o_itT, o_listL, o_listT, o_tupL, o_tupT, o_lenL, o_lenT, o_lenS, o_abs, o_toInt, o_app, o_ixTn, o_ixLn, o_ixDct, o_inDct, o_setLn, o_setDct, o_sumL, o_sumT, o_ln0, o_ln1, o_ln2, o_ln3, o_ln4, o_ln5, o_ln6, o_ln7, o_ln8, o_ln9, o_ln10, o_ln11, o_ixT0, o_ixL0, o_setL0, o_ixT1, o_ixL1, o_setL1, o_ixT2, o_ixL2, o_setL2, o_ixT3, o_ixL3, o_setL3, o_ixT4, o_ixL4, o_setL4, o_ixT5, o_ixL5, o_setL5, o_ixT6, o_ixL6, o_setL6, o_ixT7, o_ixL7, o_setL7, o_ixT8, o_ixL8, o_setL8, o_ixT9, o_ixL9, o_setL9, o_divI, Option.map_some, Option.map_none, List.not_mem_nil, reduceIte, Bool.false_eq_true, List.mem_singleton, Nat.reduceLT, Nat.reduceLeDiff, Int.reduceLT, Int.reduceLE, Nat.reduceEqDiff, Int.reduceNeg, items5]) e3
        simp only [e_vName, e_vC, e_rd, e_fz, e_op1, e_op2, e_aNil, e_aCons, e_aLast, e_opN, e_dsp, e_opC, e_vOr, e_vAnd, e_vNot, e_vIf, e_tst, e_tru, e_tAnd, e_tOr, e_tNot, e_opMt, e_ptNone, e_ptSome, e_opSl, e_opSt, e_callF, e_callIo, e_mMut, e_vDict0, e_vDict, e_dCons, e_dNil, e_sNil, e_sSeq, e_sIf, e_sRet, e_sRetN, e_sExpr, e_sBk, e_sCt, e_sSet, e_slF, e_sAsg, e_sPut, e_iSeq, e_iRange1, e_iRange2, e_iEnum, e_tstYes, e_gN0, e_gT, e_gsNil, e_gsCons, e_eqI, fzR, Rv.get, getA, allFz, appO, Out.rv, List.getElem?_cons_zero, List.getElem?_cons_succ, List.set_cons_zero, List.set_cons_succ, Nat.reduceAdd, List.length_cons, List.length_nil, if_true, if_false, one, decide_true, decide_false, Bool.xor_false, Bool.false_xor, Bool.true_xor, Bool.not_true, Bool.not_false, oTup, oLst, splitL, List.cons_append, List.nil_append, e_gN, and_self, o_addI, o_subI, o_mulI, o_modI, o_neg, o_ltI, o_leI, o_gtI, o_geI, o_isN, o_nN, o_nB, o_nI, o_nS, o_nT, o_nL, o_nD, o_isB, o_itL, o_itT, o_listL, o_listT, o_tupL, o_tupT, o_lenL, o_lenT, o_lenS, o_abs, o_toInt, o_app, o_ixTn, o_ixLn, o_ixDct, o_inDct, o_setLn, o_setDct, o_sumL, o_sumT, o_ln0, o_ln1, o_ln2, o_ln3, o_ln4, o_ln5, o_ln6, o_ln7, o_ln8, o_ln9, o_ln10, o_ln11, o_ixT0, o_ixL0, o_setL0, o_ixT1, o_ixL1, o_setL1, o_ixT2, o_ixL2, o_setL2, o_ixT3, o_ixL3, o_setL3, o_ixT4, o_ixL4, o_setL4, o_ixT5, o_ixL5, o_setL5, o_ixT6, o_ixL6, o_setL6, o_ixT7, o_ixL7, o_setL7, o_ixT8, o_ixL8, o_setL8, o_ixT9, o_ixL9, o_setL9, o_divI, Option.map_some, Option.map_none, List.not_mem_nil, reduceIte, Bool.false_eq_true, List.mem_singleton, Nat.reduceLT, Nat.reduceLeDiff, Int.reduceLT, Int.reduceLE, Nat.reduceEqDiff, Int.reduceNeg, sl, i0, z1, pm, kd, m32, m12, ik, hd, Option.isSome_none, e4, g2.isK s (p % 2), lt, g3.isK s (p % 2), dget_put k2 (nkS s (p % 2)) (keyD s (p % 2)) (.int (ways (L + 1) s (evn p) : Nat)) (keyOf_key s (p % 2))]
        rfl
end K77
end

section
set_option autoImplicit false
namespace K77
open PySem PySem.Spec PyProof.Rows L2 T3
def kD (b n q : Nat) : T3.D := .tuple [.int b, .int n, .int q]
def fs (b n q : Nat) : St := ⟨b, 1, n, q, 2, 0, 0⟩
theorem first_ok (b n q : Nat) : F_first_state [kD b n q] = .ok (dS (fs b n q)) none := by kernel_rfl
def stockD (b n q : Nat) : T3.D := .dict [(.str "B", .int b), (.str "K", .int 1), (.str "N", .int n), (.str "Q", .int q), (.str "R", .int 2)]
theorem stock_ok (b n q : Nat) : F_stock_of [kD b n q] = .ok (stockD b n q) none := by kernel_rfl
theorem min_kD (b n q : Nat) : ∃ m : Nat, pMin [kD b n q] = some (.fz (.int (m : Int))) := by
  have h := minL_mem [(b : Int), n, q] (by simp)
  have e : pMin [kD b n q] = some (.fz (.int (minL [(b : Int), n, q]))) := rfl
  rw [e]
  simp only [List.mem_cons, List.not_mem_nil, or_false] at h
  rcases h with h | h | h
  · exact ⟨b, by rw [h]⟩
  · exact ⟨n, by rw [h]⟩
  · exact ⟨q, by rw [h]⟩
theorem sum_kD (b n q : Nat) : pSum [kD b n q] = some (.fz (.int ((b + n + q : Nat) : Int))) := by
  have h := o_sumT [(b : Int), n, q]
  have e : ([(b : Int), n, q] : List Int).sum = ((b + n + q : Nat) : Int) := by
    simp only [List.sum_cons, List.sum_nil]
    omega
  rw [e] at h
  exact h
theorem check_ok {b n q : Nat} (h : b + n + q ≤ 7) : F_check_kind [kD b n q] = .ok .none none := by
  obtain ⟨m, hm⟩ := min_kD b n q
  have hs := sum_kD b n q
  have z : ¬ ((m : Int) < 0) := by omega
  have z2 : ¬ ((7 : Int) < ((b + n + q : Nat) : Int)) := by omega
  unfold F_check_kind mkFn
  rw [if_pos ⟨rfl, fun h => by cases h⟩]
  unfold B_check_kind
  have e : (mkE false [kD b n q] ++ List.replicate (1 - 1) Slot.non) = [.fz (kD b n q)] := rfl
  rw [e]
  simp only [e_vName, e_vC, e_rd, e_fz, e_op1, e_op2, e_aNil, e_aCons, e_aLast, e_opN, e_dsp, e_opC, e_vOr, e_vAnd, e_vNot, e_vIf, e_tst, e_tru, e_tAnd, e_tOr, e_tNot, e_opMt, e_ptNone, e_ptSome, e_opSl, e_opSt, e_callF, e_callIo, e_mMut, e_vDict0, e_vDict, e_dCons, e_dNil, e_sNil, e_sSeq, e_sIf, e_sRet, e_sRetN, e_sExpr, e_sBk, e_sCt, e_sSet, e_slF, e_sAsg, e_sPut, e_iSeq, e_iRange1, e_iRange2, e_iEnum, e_tstYes, e_gN0, e_gT, e_gsNil, e_gsCons, e_eqI, fzR, Rv.get, getA, allFz, appO, Out.rv, List.getElem?_cons_zero, List.getElem?_cons_succ, List.set_cons_zero, List.set_cons_succ, Nat.reduceAdd, List.length_cons, List.length_nil, if_true, if_false, one, decide_true, decide_false, Bool.xor_false, Bool.false_xor, Bool.true_xor, Bool.not_true, Bool.not_false, oTup, oLst, splitL, List.cons_append, List.nil_append, e_gN, and_self, o_addI, o_subI, o_mulI, o_modI, o_neg, o_ltI, o_leI, o_gtI, o_geI, o_isN, o_nN, o_nB, o_nI, o_nS, o_nT, o_nL, o_nD, o_isB, o_itL, o_itT, o_listL, o_listT, o_tupL, o_tupT, o_lenL, o_lenT, o_lenS, o_abs, o_toInt, o_app, o_ixTn, o_ixLn, o_ixDct, o_inDct, o_setLn, o_setDct, o_sumL, o_sumT, o_ln0, o_ln1, o_ln2, o_ln3, o_ln4, o_ln5, o_ln6, o_ln7, o_ln8, o_ln9, o_ln10, o_ln11, o_ixT0, o_ixL0, o_setL0, o_ixT1, o_ixL1, o_setL1, o_ixT2, o_ixL2, o_setL2, o_ixT3, o_ixL3, o_setL3, o_ixT4, o_ixL4, o_setL4, o_ixT5, o_ixL5, o_setL5, o_ixT6, o_ixL6, o_setL6, o_ixT7, o_ixL7, o_setL7, o_ixT8, o_ixL8, o_setL8, o_ixT9, o_ixL9, o_setL9, o_divI, Option.map_some, Option.map_none, List.not_mem_nil, reduceIte, Bool.false_eq_true, List.mem_singleton, Nat.reduceLT, Nat.reduceLeDiff, Int.reduceLT, Int.reduceLE, Nat.reduceEqDiff, Int.reduceNeg, hm, hs, z, z2]
  rfl
theorem count_ok {b n q : Nat} (h : b + n + q ≤ 7) : F_count [kD b n q] = .ok (.int (ways (b + n + q + 3) (fs b n q) true : Nat)) none := by
  have ht : tot (fs b n q) = b + n + q + 3 := by unfold tot fs; dsimp only; omega
  have hA : ∀ L, L ≤ 10 → Ad L ≤ line := fun L hL => by
    have : ∀ L, L ≤ 10 → Ad L ≤ 2441406 := by decide
    exact Nat.le_trans (this L hL) (by decide)
  obtain ⟨k, h1, h2, h3⟩ := ways_ok 12 (fs b n q) 0 [] (by omega) (fun q hq => by cases hq) (by rw [ht]; have := hA (b + n + q + 3) (by omega); simpa using this)
  rw [ht] at h1
  have h1 : F_ways_from 12 [dS (fs b n q), .int 0, .dict []] = .ok (.int (ways (b + n + q + 3) (fs b n q) true : Nat)) (some (.dict k)) := h1
  have c := check_ok h
  have f := first_ok b n q
  unfold F_count mkFn
  rw [if_pos ⟨rfl, fun h => by cases h⟩]
  unfold B_count
  have e : (mkE false [kD b n q] ++ List.replicate (1 - 1) Slot.non) = [.fz (kD b n q)] := rfl
  rw [e]
  simp only [e_vName, e_vC, e_rd, e_fz, e_op1, e_op2, e_aNil, e_aCons, e_aLast, e_opN, e_dsp, e_opC, e_vOr, e_vAnd, e_vNot, e_vIf, e_tst, e_tru, e_tAnd, e_tOr, e_tNot, e_opMt, e_ptNone, e_ptSome, e_opSl, e_opSt, e_callF, e_callIo, e_mMut, e_vDict0, e_vDict, e_dCons, e_dNil, e_sNil, e_sSeq, e_sIf, e_sRet, e_sRetN, e_sExpr, e_sBk, e_sCt, e_sSet, e_slF, e_sAsg, e_sPut, e_iSeq, e_iRange1, e_iRange2, e_iEnum, e_tstYes, e_gN0, e_gT, e_gsNil, e_gsCons, e_eqI, fzR, Rv.get, getA, allFz, appO, Out.rv, List.getElem?_cons_zero, List.getElem?_cons_succ, List.set_cons_zero, List.set_cons_succ, Nat.reduceAdd, List.length_cons, List.length_nil, if_true, if_false, one, decide_true, decide_false, Bool.xor_false, Bool.false_xor, Bool.true_xor, Bool.not_true, Bool.not_false, oTup, oLst, splitL, List.cons_append, List.nil_append, e_gN, and_self, o_addI, o_subI, o_mulI, o_modI, o_neg, o_ltI, o_leI, o_gtI, o_geI, o_isN, o_nN, o_nB, o_nI, o_nS, o_nT, o_nL, o_nD, o_isB, o_itL, o_itT, o_listL, o_listT, o_tupL, o_tupT, o_lenL, o_lenT, o_lenS, o_abs, o_toInt, o_app, o_ixTn, o_ixLn, o_ixDct, o_inDct, o_setLn, o_setDct, o_sumL, o_sumT, o_ln0, o_ln1, o_ln2, o_ln3, o_ln4, o_ln5, o_ln6, o_ln7, o_ln8, o_ln9, o_ln10, o_ln11, o_ixT0, o_ixL0, o_setL0, o_ixT1, o_ixL1, o_setL1, o_ixT2, o_ixL2, o_setL2, o_ixT3, o_ixL3, o_setL3, o_ixT4, o_ixL4, o_setL4, o_ixT5, o_ixL5, o_setL5, o_ixT6, o_ixL6, o_setL6, o_ixT7, o_ixL7, o_setL7, o_ixT8, o_ixL8, o_setL8, o_ixT9, o_ixL9, o_setL9, o_divI, Option.map_some, Option.map_none, List.not_mem_nil, reduceIte, Bool.false_eq_true, List.mem_singleton, Nat.reduceLT, Nat.reduceLeDiff, Int.reduceLT, Int.reduceLE, Nat.reduceEqDiff, Int.reduceNeg, c, f, h1]
  rfl
end K77
end

section
set_option autoImplicit false
namespace K77
open PySem PySem.Spec PyProof.Rows L2 T3
/-! ### texts of signs -/
def cd : Nat → Nat
  | 0 => 66
  | 1 => 75
  | 2 => 78
  | 3 => 81
  | _ => 82
def txt (l : List Nat) : Str := ⟨(l.map cd).toArray⟩
theorem sg_txt : ∀ i, i < 5 → sg i = txt [i] := by
  intro i hi
  rcases i with _ | _ | _ | _ | _ | i
  · kernel_rfl
  · kernel_rfl
  · kernel_rfl
  · kernel_rfl
  · kernel_rfl
  · omega
theorem txt_app (l m : List Nat) : txt l ++ txt m = txt (l ++ m) := by
  show (⟨(l.map cd).toArray ++ (m.map cd).toArray⟩ : Str) = _
  unfold txt
  rw [List.map_append]
  simp
theorem txt_len (l : List Nat) : (txt l).length = l.length := by
  show ((l.map cd).toArray).size = _
  rw [List.size_toArray, List.length_map]
theorem txt_nil : ("" : Str) = txt [] := by kernel_rfl
/-! ### the row of a number -/
def pk (L : Nat) (s : St) (ev : Bool) : List Nat → Nat → Option (Nat × St × Nat)
  | [], _ => none
  | i :: is, m => match stp s ev i with
    | none => pk L s ev is m
    | some s' => if m < ways L s' (!ev) then some (i, s', m) else pk L s ev is (m - ways L s' (!ev))
def rowOf : Nat → St → Bool → Nat → List Nat
  | 0, _, _, _ => []
  | L + 1, s, ev, m => match pk L s ev [0, 1, 2, 3, 4] m with
    | none => []
    | some (i, s', m') => i :: rowOf L s' (!ev) m'
def goD (o : Option (Nat × St × Nat)) : T3.D := match o with
  | none => .none
  | some (i, s, m) => .tuple [.str (sg i), dS s, .int (m : Int)]
def bodyI : SX := (sSeq (sSet [] 9 (callF false (F_step) (aCons (fz [] (vName 3)) (aCons (fz [] (vName 8)) (aCons (fz [] (vName 5)) (aNil))))))
    (sSeq (sSet [] 10 (vIf (tst (op2 (pIs false) (vName 9) (vC .none))) (vC (.int 0)) (callIo false (F_ways_from 12) (aCons (vName 9) (aCons (op2 pAdd (vName 5) (vC (.int 1))) (aLast (vName 2)))))))
    (sSeq (sIf (tAnd (tst (op2 (pIs false) (vName 7) (vC .none))) (tst (op2 pLt (vName 6) (vName 10)))) (sSet [] 7 (dsp oTup (aCons (vName 8) (aCons (vName 9) (aLast (vName 6)))))) (sNil))
    (sSet [] 6 (op2 pSub (vName 6) (vName 10))))))
def En11 (kd : T3.D) (s : St) (p : Nat) (nm : Int) (f : Str) (kvs : List (T3.D × T3.D)) (lf : Int) (gd : T3.D) (x y z : Slot) : En :=
  [.fz kd, .fz (.int nm), .ow (.dict kvs), .fz (dS s), .fz (.str f), .fz (.int (p : Int)), .fz (.int lf), .fz gd, x, y, z]
section
variable {kd : T3.D} {s : St} {p L : Nat} {nm : Int} {f : Str}
/-- a sign's ways are reckoned -/
theorem ways12 (hL : tot s = L + 1) (hL2 : L < 12) {i : Nat} {s' : St} (h : stp s (evn p) i = some s') {kvs : List (T3.D × T3.D)} (hg : Good kvs) (hl : kvs.length + Ad L ≤ line) :
    ∃ kvs', F_ways_from 12 [dS s', .int ((p + 1 : Nat) : Int), .dict kvs] = .ok (.int (ways L s' (!evn p) : Nat)) (some (.dict kvs')) ∧ Good kvs' ∧ kvs'.length ≤ kvs.length + Ad L := by
  have ht := stp_tot h
  have hs' : tot s' = L := by omega
  obtain ⟨kvs', e1, e2, e3⟩ := ways_ok 12 s' (p + 1) kvs (by omega) hg (by rw [hs']; exact hl)
  rw [hs', evn_succ] at e1
  rw [hs'] at e3
  exact ⟨kvs', e1, e2, e3⟩
theorem iterI (hL : tot s = L + 1) (hL2 : L < 12) {i : Nat} (hi : i < 5) {kvs : List (T3.D × T3.D)} (hg : Good kvs) (hl : kvs.length + Ad L ≤ line) (lf : Int) (gd : T3.D) (y z : Slot) (hgd : (∃ m : Nat, lf = m ∧ gd = .none) ∨ ∃ t, gd = goD (some t)) :
    ∃ kvs' y' z', bodyI (En11 kd s p nm f kvs lf gd (.fz (.str (sg i))) y z) = .nx (En11 kd s p nm f kvs' (lf - wi L s (evn p) i) (if isNone gd = true ∧ lf < wi L s (evn p) i then .tuple [.str (sg i), dO (stp s (evn p) i), .int lf] else gd) (.fz (.str (sg i))) y' z') ∧ Good kvs' ∧ kvs'.length ≤ kvs.length + Ad L := by
  have st := step_ok s p i hi
  have pc : ((p : Int) + 1) = ((p + 1 : Nat) : Int) := by omega
  unfold bodyI En11
  cases h : stp s (evn p) i with
  | none =>
    rw [h] at st
    have hw : wi L s (evn p) i = 0 := by unfold wi; rw [h]
    rw [hw]
    refine ⟨kvs, .fz .none, .fz (.int 0), ?_, hg, by omega⟩
    rcases hgd with ⟨m, rfl, rfl⟩ | ⟨⟨j, t, m⟩, rfl⟩
    · have z1 : ¬ ((m : Int) < 0) := by omega
      simp only [e_vName, e_vC, e_rd, e_fz, e_op1, e_op2, e_aNil, e_aCons, e_aLast, e_opN, e_dsp, e_opC, e_vOr, e_vAnd, e_vNot, e_vIf, e_tst, e_tru, e_tAnd, e_tOr, e_tNot, e_opMt, e_ptNone, e_ptSome, e_opSl, e_opSt, e_callF, e_callIo, e_mMut, e_vDict0, e_vDict, e_dCons, e_dNil, e_sNil, e_sSeq, e_sIf, e_sRet, e_sRetN, e_sExpr, e_sBk, e_sCt, e_sSet, e_slF, e_sAsg, e_sPut, e_iSeq, e_iRange1, e_iRange2, e_iEnum, e_tstYes, e_gN0, e_gT, e_gsNil, e_gsCons, e_eqI, fzR, Rv.get, getA, allFz, appO, Out.rv, List.getElem?_cons_zero, List.getElem?_cons_succ, List.set_cons_zero, List.set_cons_succ, Nat.reduceAdd, List.length_cons, List.length_nil, if_true, if_false, one, decide_true, decide_false, Bool.xor_false, Bool.false_xor, Bool.true_xor, Bool.not_true, Bool.not_false, oTup, oLst, splitL, List.cons_append, List.nil_append, e_gN, and_self, o_addI, o_subI, o_mulI, o_modI, o_neg, o_ltI, o_leI, o_gtI, o_geI, o_isN, o_nN, o_nB, o_nI, o_nS, o_nT, o_nL, o_nD, o_isB, o_itL, o_itT, o_listL, o_listT, o_tupL, o_tupT, o_lenL, o_lenT, o_lenS, o_abs, o_toInt, o_app, o_ixTn, o_ixLn, o_ixDct, o_inDct, o_setLn, o_setDct, o_sumL, o_sumT, o_ln0, o_ln1, o_ln2, o_ln3, o_ln4, o_ln5, o_ln6, o_ln7, o_ln8, o_ln9, o_ln10, o_ln11, o_ixT0, o_ixL0, o_setL0, o_ixT1, o_ixL1, o_setL1, o_ixT2, o_ixL2, o_setL2, o_ixT3, o_ixL3, o_setL3, o_ixT4, o_ixL4, o_setL4, o_ixT5, o_ixL5, o_setL5, o_ixT6, o_ixL6, o_setL6, o_ixT7, o_ixL7, o_setL7, o_ixT8, o_ixL8, o_setL8, o_ixT9, o_ixL9, o_setL9, o_divI, Option.map_some, Option.map_none, List.not_mem_nil, reduceIte, Bool.false_eq_true, List.mem_singleton, Nat.reduceLT, Nat.reduceLeDiff, Int.reduceLT, Int.reduceLE, Nat.reduceEqDiff, Int.reduceNeg, st, dO, Int.natCast_zero, z1, and_false]
    · unfold goD
      simp only [e_vName, e_vC, e_rd, e_fz, e_op1, e_op2, e_aNil, e_aCons, e_aLast, e_opN, e_dsp, e_opC, e_vOr, e_vAnd, e_vNot, e_vIf, e_tst, e_tru, e_tAnd, e_tOr, e_tNot, e_opMt, e_ptNone, e_ptSome, e_opSl, e_opSt, e_callF, e_callIo, e_mMut, e_vDict0, e_vDict, e_dCons, e_dNil, e_sNil, e_sSeq, e_sIf, e_sRet, e_sRetN, e_sExpr, e_sBk, e_sCt, e_sSet, e_slF, e_sAsg, e_sPut, e_iSeq, e_iRange1, e_iRange2, e_iEnum, e_tstYes, e_gN0, e_gT, e_gsNil, e_gsCons, e_eqI, fzR, Rv.get, getA, allFz, appO, Out.rv, List.getElem?_cons_zero, List.getElem?_cons_succ, List.set_cons_zero, List.set_cons_succ, Nat.reduceAdd, List.length_cons, List.length_nil, if_true, if_false, one, decide_true, decide_false, Bool.xor_false, Bool.false_xor, Bool.true_xor, Bool.not_true, Bool.not_false, oTup, oLst, splitL, List.cons_append, List.nil_append, e_gN, and_self, o_addI, o_subI, o_mulI, o_modI, o_neg, o_ltI, o_leI, o_gtI, o_geI, o_isN, o_nN, o_nB, o_nI, o_nS, o_nT, o_nL, o_nD, o_isB, o_itL, o_itT, o_listL, o_listT, o_tupL, o_tupT, o_lenL, o_lenT, o_lenS, o_abs, o_toInt, o_app, o_ixTn, o_ixLn, o_ixDct, o_inDct, o_setLn, o_setDct, o_sumL, o_sumT, o_ln0, o_ln1, o_ln2, o_ln3, o_ln4, o_ln5, o_ln6, o_ln7, o_ln8, o_ln9, o_ln10, o_ln11, o_ixT0, o_ixL0, o_setL0, o_ixT1, o_ixL1, o_setL1, o_ixT2, o_ixL2, o_setL2, o_ixT3, o_ixL3, o_setL3, o_ixT4, o_ixL4, o_setL4, o_ixT5, o_ixL5, o_setL5, o_ixT6, o_ixL6, o_setL6, o_ixT7, o_ixL7, o_setL7, o_ixT8, o_ixL8, o_setL8, o_ixT9, o_ixL9, o_setL9, o_divI, Option.map_some, Option.map_none, List.not_mem_nil, reduceIte, Bool.false_eq_true, List.mem_singleton, Nat.reduceLT, Nat.reduceLeDiff, Int.reduceLT, Int.reduceLE, Nat.reduceEqDiff, Int.reduceNeg, st, dO, Int.natCast_zero, false_and]
  | some s' =>
    rw [h] at st
    have hw : wi L s (evn p) i = ways L s' (!evn p) := by unfold wi; rw [h]
    rw [hw]
    obtain ⟨kvs', e1, e2, e3⟩ := ways12 hL hL2 h hg hl
    refine ⟨kvs', .fz (dS s'), .fz (.int (ways L s' (!evn p) : Nat)), ?_, e2, e3⟩
    rcases hgd with ⟨m, rfl, rfl⟩ | ⟨⟨j, t, m⟩, rfl⟩
    · by_cases z1 : (m : Int) < (ways L s' (!evn p) : Nat)
      · simp only [e_vName, e_vC, e_rd, e_fz, e_op1, e_op2, e_aNil, e_aCons, e_aLast, e_opN, e_dsp, e_opC, e_vOr, e_vAnd, e_vNot, e_vIf, e_tst, e_tru, e_tAnd, e_tOr, e_tNot, e_opMt, e_ptNone, e_ptSome, e_opSl, e_opSt, e_callF, e_callIo, e_mMut, e_vDict0, e_vDict, e_dCons, e_dNil, e_sNil, e_sSeq, e_sIf, e_sRet, e_sRetN, e_sExpr, e_sBk, e_sCt, e_sSet, e_slF, e_sAsg, e_sPut, e_iSeq, e_iRange1, e_iRange2, e_iEnum, e_tstYes, e_gN0, e_gT, e_gsNil, e_gsCons, e_eqI, fzR, Rv.get, getA, allFz, appO, Out.rv, List.getElem?_cons_zero, List.getElem?_cons_succ, List.set_cons_zero, List.set_cons_succ, Nat.reduceAdd, List.length_cons, List.length_nil, if_true, if_false, one, decide_true, decide_false, Bool.xor_false, Bool.false_xor, Bool.true_xor, Bool.not_true, Bool.not_false, oTup, oLst, splitL, List.cons_append, List.nil_append, e_gN, and_self, o_addI, o_subI, o_mulI, o_modI, o_neg, o_ltI, o_leI, o_gtI, o_geI, o_isN, o_nN, o_nB, o_nI, o_nS, o_nT, o_nL, o_nD, o_isB, o_itL, o_itT, o_listL, o_listT, o_tupL, o_tupT, o_lenL, o_lenT, o_lenS, o_abs, o_toInt, o_app, o_ixTn, o_ixLn, o_ixDct, o_inDct, o_setLn, o_setDct, o_sumL, o_sumT, o_ln0, o_ln1, o_ln2, o_ln3, o_ln4, o_ln5, o_ln6, o_ln7, o_ln8, o_ln9, o_ln10, o_ln11, o_ixT0, o_ixL0, o_setL0, o_ixT1, o_ixL1, o_setL1, o_ixT2, o_ixL2, o_setL2, o_ixT3, o_ixL3, o_setL3, o_ixT4, o_ixL4, o_setL4, o_ixT5, o_ixL5, o_setL5, o_ixT6, o_ixL6, o_setL6, o_ixT7, o_ixL7, o_setL7, o_ixT8, o_ixL8, o_setL8, o_ixT9, o_ixL9, o_setL9, o_divI, Option.map_some, Option.map_none, List.not_mem_nil, reduceIte, Bool.false_eq_true, List.mem_singleton, Nat.reduceLT, Nat.reduceLeDiff, Int.reduceLT, Int.reduceLE, Nat.reduceEqDiff, Int.reduceNeg, st, dO, isN_dS, pc, e1, z1, and_self]
      · simp only [e_vName, e_vC, e_rd, e_fz, e_op1, e_op2, e_aNil, e_aCons, e_aLast, e_opN, e_dsp, e_opC, e_vOr, e_vAnd, e_vNot, e_vIf, e_tst, e_tru, e_tAnd, e_tOr, e_tNot, e_opMt, e_ptNone, e_ptSome, e_opSl, e_opSt, e_callF, e_callIo, e_mMut, e_vDict0, e_vDict, e_dCons, e_dNil, e_sNil, e_sSeq, e_sIf, e_sRet, e_sRetN, e_sExpr, e_sBk, e_sCt, e_sSet, e_slF, e_sAsg, e_sPut, e_iSeq, e_iRange1, e_iRange2, e_iEnum, e_tstYes, e_gN0, e_gT, e_gsNil, e_gsCons, e_eqI, fzR, Rv.get, getA, allFz, appO, Out.rv, List.getElem?_cons_zero, List.getElem?_cons_succ, List.set_cons_zero, List.set_cons_succ, Nat.reduceAdd, List.length_cons, List.length_nil, if_true, if_false, one, decide_true, decide_false, Bool.xor_false, Bool.false_xor, Bool.true_xor, Bool.not_true, Bool.not_false, oTup, oLst, splitL, List.cons_append, List.nil_append, e_gN, and_self, o_addI, o_subI, o_mulI, o_modI, o_neg, o_ltI, o_leI, o_gtI, o_geI, o_isN, o_nN, o_nB, o_nI, o_nS, o_nT, o_nL, o_nD, o_isB, o_itL, o_itT, o_listL, o_listT, o_tupL, o_tupT, o_lenL, o_lenT, o_lenS, o_abs, o_toInt, o_app, o_ixTn, o_ixLn, o_ixDct, o_inDct, o_setLn, o_setDct, o_sumL, o_sumT, o_ln0, o_ln1, o_ln2, o_ln3, o_ln4, o_ln5, o_ln6, o_ln7, o_ln8, o_ln9, o_ln10, o_ln11, o_ixT0, o_ixL0, o_setL0, o_ixT1, o_ixL1, o_setL1, o_ixT2, o_ixL2, o_setL2, o_ixT3, o_ixL3, o_setL3, o_ixT4, o_ixL4, o_setL4, o_ixT5, o_ixL5, o_setL5, o_ixT6, o_ixL6, o_setL6, o_ixT7, o_ixL7, o_setL7, o_ixT8, o_ixL8, o_setL8, o_ixT9, o_ixL9, o_setL9, o_divI, Option.map_some, Option.map_none, List.not_mem_nil, reduceIte, Bool.false_eq_true, List.mem_singleton, Nat.reduceLT, Nat.reduceLeDiff, Int.reduceLT, Int.reduceLE, Nat.reduceEqDiff, Int.reduceNeg, st, dO, isN_dS, pc, e1, z1, and_false]
    · unfold goD
      simp only [e_vName, e_vC, e_rd, e_fz, e_op1, e_op2, e_aNil, e_aCons, e_aLast, e_opN, e_dsp, e_opC, e_vOr, e_vAnd, e_vNot, e_vIf, e_tst, e_tru, e_tAnd, e_tOr, e_tNot, e_opMt, e_ptNone, e_ptSome, e_opSl, e_opSt, e_callF, e_callIo, e_mMut, e_vDict0, e_vDict, e_dCons, e_dNil, e_sNil, e_sSeq, e_sIf, e_sRet, e_sRetN, e_sExpr, e_sBk, e_sCt, e_sSet, e_slF, e_sAsg, e_sPut, e_iSeq, e_iRange1, e_iRange2, e_iEnum, e_tstYes, e_gN0, e_gT, e_gsNil, e_gsCons, e_eqI, fzR, Rv.get, getA, allFz, appO, Out.rv, List.getElem?_cons_zero, List.getElem?_cons_succ, List.set_cons_zero, List.set_cons_succ, Nat.reduceAdd, List.length_cons, List.length_nil, if_true, if_false, one, decide_true, decide_false, Bool.xor_false, Bool.false_xor, Bool.true_xor, Bool.not_true, Bool.not_false, oTup, oLst, splitL, List.cons_append, List.nil_append, e_gN, and_self, o_addI, o_subI, o_mulI, o_modI, o_neg, o_ltI, o_leI, o_gtI, o_geI, o_isN, o_nN, o_nB, o_nI, o_nS, o_nT, o_nL, o_nD, o_isB, o_itL, o_itT, o_listL, o_listT, o_tupL, o_tupT, o_lenL, o_lenT, o_lenS, o_abs, o_toInt, o_app, o_ixTn, o_ixLn, o_ixDct, o_inDct, o_setLn, o_setDct, o_sumL, o_sumT, o_ln0, o_ln1, o_ln2, o_ln3, o_ln4, o_ln5, o_ln6, o_ln7, o_ln8, o_ln9, o_ln10, o_ln11, o_ixT0, o_ixL0, o_setL0, o_ixT1, o_ixL1, o_setL1, o_ixT2, o_ixL2, o_setL2, o_ixT3, o_ixL3, o_setL3, o_ixT4, o_ixL4, o_setL4, o_ixT5, o_ixL5, o_setL5, o_ixT6, o_ixL6, o_setL6, o_ixT7, o_ixL7, o_setL7, o_ixT8, o_ixL8, o_setL8, o_ixT9, o_ixL9, o_setL9, o_divI, Option.map_some, Option.map_none, List.not_mem_nil, reduceIte, Bool.false_eq_true, List.mem_singleton, Nat.reduceLT, Nat.reduceLeDiff, Int.reduceLT, Int.reduceLE, Nat.reduceEqDiff, Int.reduceNeg, st, dO, isN_dS, pc, e1, false_and]
theorem innerB (hL : tot s = L + 1) (hL2 : L < 12) (t : Nat × St × Nat) : ∀ (is : List Nat), (∀ i ∈ is, i < 5) → ∀ (kvs : List (T3.D × T3.D)) (lf : Int) (x y z : Slot), Good kvs → kvs.length + is.length * Ad L ≤ line →
    ∃ kvs' lf' x' y' z', fl (gN [] 8) bodyI (is.map fun i => .str (sg i)) (En11 kd s p nm f kvs lf (goD (some t)) x y z) = .nx (En11 kd s p nm f kvs' lf' (goD (some t)) x' y' z') ∧ Good kvs' ∧ kvs'.length ≤ kvs.length + is.length * Ad L
  | [], _, kvs, lf, x, y, z, hg, _ => ⟨kvs, lf, x, y, z, rfl, hg, by simp⟩
  | i :: is, hi, kvs, lf, x, y, z, hg, hl => by
    rw [List.length_cons, Nat.succ_mul] at hl
    obtain ⟨k1, y1, z1, e1, g1, l1⟩ := iterI (kd := kd) (p := p) (nm := nm) (f := f) hL hL2 (hi i List.mem_cons_self) hg (by omega) lf (goD (some t)) y z (.inr ⟨t, rfl⟩)
    have nn : ¬ (isNone (goD (some t)) = true ∧ lf < wi L s (evn p) i) := fun h => by
      obtain ⟨a, b, c⟩ := t
      cases h.1
    rw [if_neg nn] at e1
    obtain ⟨k2, l2, x2, y2, z2, e2, g2, m2⟩ := innerB hL hL2 t is (fun j hj => hi j (List.mem_cons_of_mem _ hj)) k1 (lf - wi L s (evn p) i) (.fz (.str (sg i))) y1 z1 g1 (by omega)
    refine ⟨k2, l2, x2, y2, z2, ?_, g2, by rw [List.length_cons, Nat.succ_mul]; omega⟩
    rw [List.map_cons, e_flC, show gN [] 8 (.str (sg i)) (En11 kd s p nm f kvs lf (goD (some t)) x y z) = some (En11 kd s p nm f kvs lf (goD (some t)) (.fz (.str (sg i))) y z) from rfl]
    dsimp only
    rw [e1]
    exact e2
theorem innerA (hL : tot s = L + 1) (hL2 : L < 12) : ∀ (is : List Nat), (∀ i ∈ is, i < 5) → ∀ (kvs : List (T3.D × T3.D)) (m : Nat) (x y z : Slot), Good kvs → kvs.length + is.length * Ad L ≤ line →
    ∃ kvs' lf' x' y' z', fl (gN [] 8) bodyI (is.map fun i => .str (sg i)) (En11 kd s p nm f kvs (m : Int) .none x y z) = .nx (En11 kd s p nm f kvs' lf' (goD (pk L s (evn p) is m)) x' y' z') ∧ Good kvs' ∧ kvs'.length ≤ kvs.length + is.length * Ad L
  | [], _, kvs, lf, x, y, z, hg, _ => ⟨kvs, lf, x, y, z, rfl, hg, by simp⟩
  | i :: is, hi, kvs, m, x, y, z, hg, hl => by
    rw [List.length_cons, Nat.succ_mul] at hl
    obtain ⟨k1, y1, z1, e1, g1, l1⟩ := iterI (kd := kd) (p := p) (nm := nm) (f := f) hL hL2 (hi i List.mem_cons_self) hg (by omega) (m : Int) .none y z (.inl ⟨m, rfl, rfl⟩)
    have fst : ∀ k' lf' gd' x' y' z', fl (gN [] 8) bodyI (is.map fun i => .str (sg i)) (En11 kd s p nm f k1 ((m : Int) - wi L s (evn p) i) (if isNone .none = true ∧ (m : Int) < wi L s (evn p) i then .tuple [.str (sg i), dO (stp s (evn p) i), .int (m : Int)] else .none) (.fz (.str (sg i))) y1 z1) = .nx (En11 kd s p nm f k' lf' gd' x' y' z') →
        fl (gN [] 8) bodyI ((i :: is).map fun i => .str (sg i)) (En11 kd s p nm f kvs (m : Int) .none x y z) = .nx (En11 kd s p nm f k' lf' gd' x' y' z') := fun k' lf' gd' x' y' z' h => by
      rw [List.map_cons, e_flC, show gN [] 8 (.str (sg i)) (En11 kd s p nm f kvs (m : Int) .none x y z) = some (En11 kd s p nm f kvs (m : Int) .none (.fz (.str (sg i))) y z) from rfl]
      dsimp only
      rw [e1]
      exact h
    unfold pk
    cases h : stp s (evn p) i with
    | none =>
      have hw : wi L s (evn p) i = 0 := by unfold wi; rw [h]
      rw [hw, if_neg (fun z => by have := z.2; omega), show ((m : Int) - ((0 : Nat) : Int)) = (m : Int) from by omega] at fst
      obtain ⟨k2, l2, x2, y2, z2, e2, g2, m2⟩ := innerA hL hL2 is (fun j hj => hi j (List.mem_cons_of_mem _ hj)) k1 m (.fz (.str (sg i))) y1 z1 g1 (by omega)
      exact ⟨k2, l2, x2, y2, z2, fst _ _ _ _ _ _ e2, g2, by rw [List.length_cons, Nat.succ_mul]; omega⟩
    | some s' =>
      have hw : wi L s (evn p) i = ways L s' (!evn p) := by unfold wi; rw [h]
      rw [hw] at fst
      dsimp only
      by_cases c : m < ways L s' (!evn p)
      · rw [if_pos ⟨rfl, by omega⟩, h] at fst
        rw [if_pos c]
        obtain ⟨k2, l2, x2, y2, z2, e2, g2, m2⟩ := innerB (kd := kd) (p := p) (nm := nm) (f := f) hL hL2 (i, s', m) is (fun j hj => hi j (List.mem_cons_of_mem _ hj)) k1 ((m : Int) - (ways L s' (!evn p) : Nat)) (.fz (.str (sg i))) y1 z1 g1 (by omega)
        exact ⟨k2, l2, x2, y2, z2, fst _ _ _ _ _ _ e2, g2, by rw [List.length_cons, Nat.succ_mul]; omega⟩
      · rw [if_neg (fun z => c (by have := z.2; omega)), show ((m : Int) - ((ways L s' (!evn p) : Nat) : Int)) = ((m - ways L s' (!evn p) : Nat) : Int) from by omega] at fst
        rw [if_neg c]
        obtain ⟨k2, l2, x2, y2, z2, e2, g2, m2⟩ := innerA hL hL2 is (fun j hj => hi j (List.mem_cons_of_mem _ hj)) k1 (m - ways L s' (!evn p)) (.fz (.str (sg i))) y1 z1 g1 (by omega)
        exact ⟨k2, l2, x2, y2, z2, fst _ _ _ _ _ _ e2, g2, by rw [List.length_cons, Nat.succ_mul]; omega⟩
end
/-- there is one -/
theorem pk_some {L : Nat} {s : St} {ev : Bool} : ∀ {is : List Nat} {m : Nat}, m < (is.map (wi L s ev)).sum → ∃ i s' m', pk L s ev is m = some (i, s', m') ∧ i ∈ is ∧ stp s ev i = some s' ∧ m' < ways L s' (!ev)
  | [], m, h => by simp at h
  | i :: is, m, h => by
    rw [List.map_cons, List.sum_cons] at h
    unfold pk
    cases e : stp s ev i with
    | none =>
      have hw : wi L s ev i = 0 := by unfold wi; rw [e]
      obtain ⟨j, s', m', h1, h2, h3⟩ := pk_some (L := L) (s := s) (ev := ev) (is := is) (m := m) (by omega)
      exact ⟨j, s', m', h1, List.mem_cons_of_mem _ h2, h3⟩
    | some s' =>
      have hw : wi L s ev i = ways L s' (!ev) := by unfold wi; rw [e]
      dsimp only
      by_cases c : m < ways L s' (!ev)
      · rw [if_pos c]
        exact ⟨i, s', m, rfl, List.mem_cons_self, e, c⟩
      · rw [if_neg c]
        obtain ⟨j, s'', m', h1, h2, h3⟩ := pk_some (L := L) (s := s) (ev := ev) (is := is) (m := m - ways L s' (!ev)) (by omega)
        exact ⟨j, s'', m', h1, List.mem_cons_of_mem _ h2, h3⟩
theorem ways_sum (L : Nat) (s : St) (ev : Bool) : ways (L + 1) s ev = ([0, 1, 2, 3, 4].map (wi L s ev)).sum := by
  rw [ways_succ]
  simp only [List.map_cons, List.map_nil, List.sum_cons, List.sum_nil]
  omega
def bodyO : SX := sSeq (sSet [] 6 (vName 1))
    (sSeq (sSet [] 7 (vC .none))
    (sSeq (sFor (iSeq [] (vC (.str "BKNQR"))) (gN [] 8) bodyI)
    (sSeq (sSet [] 4 (op2 pAdd (vName 4) (op2 pIxA (vName 7) (vC (.int 0)))))
    (sSeq (sSet [] 3 (op2 pIxA (vName 7) (vC (.int 1))))
    (sSet [] 1 (op2 pIxA (vName 7) (vC (.int 2))))))))
def EnO (kd : T3.D) (m : Nat) (kvs : List (T3.D × T3.D)) (s : St) (f : Str) (a b c x y z : Slot) : En := [.fz kd, .fz (.int (m : Int)), .ow (.dict kvs), .fz (dS s), .fz (.str f), a, b, c, x, y, z]
theorem o_addS (x y : Str) : pAdd (.str x) (.str y) = if x.length + y.length ≤ line then some (.fz (.str (x ++ y))) else none := rfl
theorem outer1 {kd : T3.D} {s : St} {p L m : Nat} {l : List Nat} {kvs : List (T3.D × T3.D)} (hL : tot s = L + 1) (hL2 : L < 12) (hm : m < ways (L + 1) s (evn p)) (hll : l.length < 100) (hg : Good kvs) (hl : kvs.length + 5 * Ad L ≤ line) (b c x y z : Slot) :
    ∃ i s' m' kvs' b' c' x' y' z', pk L s (evn p) [0, 1, 2, 3, 4] m = some (i, s', m') ∧ i < 5 ∧ stp s (evn p) i = some s' ∧ m' < ways L s' (!evn p) ∧
      bodyO (EnO kd m kvs s (txt l) (.fz (.int (p : Int))) b c x y z) = .nx (EnO kd m' kvs' s' (txt (l ++ [i])) (.fz (.int (p : Int))) b' c' x' y' z') ∧ Good kvs' ∧ kvs'.length ≤ kvs.length + 5 * Ad L := by
  rw [ways_sum] at hm
  obtain ⟨i, s', m', h1, h2, h3, h4⟩ := pk_some hm
  have hi : i < 5 := by
    simp only [List.mem_cons, List.not_mem_nil, or_false] at h2
    omega
  obtain ⟨k2, l2, x2, y2, z2, e2, g2, n2⟩ := innerA (kd := kd) (p := p) (nm := (m : Int)) (f := txt l) hL hL2 [0, 1, 2, 3, 4] (by decide) kvs m x y z hg hl
  rw [h1] at e2
  have e3 : fl (gN [] 8) bodyI [.str (sg 0), .str (sg 1), .str (sg 2), .str (sg 3), .str (sg 4)] [.fz kd, .fz (.int (m : Int)), .ow (.dict kvs), .fz (dS s), .fz (.str (txt l)), .fz (.int (p : Int)), .fz (.int (m : Int)), .fz .none, x, y, z] = .nx [.fz kd, .fz (.int (m : Int)), .ow (.dict k2), .fz (dS s), .fz (.str (txt l)), .fz (.int (p : Int)), .fz (.int l2), .fz (.tuple [.str (sg i), dS s', .int (m' : Int)]), x2, y2, z2] := e2
  have ap : pAdd (.str (txt l)) (.str (sg i)) = some (.fz (.str (txt (l ++ [i])))) := by
    rw [o_addS, sg_txt i hi, txt_app, txt_len, txt_len, if_pos (Nat.le_trans (show l.length + [i].length ≤ 100 from by simp; omega) (by decide))]
  have e4 : sFor (iSeq [] (vC (.str "BKNQR"))) (gN [] 8) bodyI [.fz kd, .fz (.int (m : Int)), .ow (.dict kvs), .fz (dS s), .fz (.str (txt l)), .fz (.int (p : Int)), .fz (.int (m : Int)), .fz .none, x, y, z] = _ := for_ok (by simp only [e_vName, e_vC, e_rd, e_fz, e_op1, e_op2, e_aNil, e_aCons, e_aLast, e_opN, e_dsp, e_opC, e_vOr, e_vAnd, e_vNot, e_vIf, e_tst, e_tru, e_tAnd, e_tOr, e_tNot, e_opMt, e_ptNone, e_ptSome, e_opSl, e_opSt, e_callF, e_callIo, e_mMut, e_vDict0, e_vDict, e_dCons, e_dNil, e_sNil, e_sSeq, e_sIf, e_sRet, e_sRetN, e_sExpr, e_sBk, e_sCt, e_sSet, e_slF, e_sAsg, e_sPut, e_iSeq, e_iRange1, e_iRange2, e_iEnum, e_tstYes, e_gN0, e_gT, e_gsNil, e_gsCons, e_eqI, fzR, Rv.get, getA, allFz, appO, Out.rv, List.getElem?_cons_zero, List.getElem?_cons_succ, List.set_cons_zero, List.set_cons_succ, Nat.reduceAdd, List.length_cons, List.length_nil, if_true, if_false, one, decide_true, decide_false, Bool.xor_false, Bool.false_xor, Bool.true_xor, Bool.not_true, Bool.not_false, oTup, oLst, splitL, List.cons_append, List.nil_append, e_gN, and_self, o_addI, o_subI, o_mulI, o_modI, o_neg, o_ltI, o_leI, o_gtI, o_geI, o_isN, o_nN, o_nB, o_nI, o_nS, o_nT, o_nL, o_nD, o_isB, o_itL, o_itT, o_listL, o_listT, o_tupL, o_tupT, o_lenL, o_lenT, o_lenS, o_abs, o_toInt, o_app, o_ixTn, o_ixLn, o_ixDct, o_inDct, o_setLn, o_setDct, o_sumL, o_sumT, o_ln0, o_ln1, o_ln2, o_ln3, o_ln4, o_ln5, o_ln6, o_ln7, o_ln8, o_ln9, o_ln10, o_ln11, o_ixT0, o_ixL0, o_setL0, o_ixT1, o_ixL1, o_setL1, o_ixT2, o_ixL2, o_setL2, o_ixT3, o_ixL3, o_setL3, o_ixT4, o_ixL4, o_setL4, o_ixT5, o_ixL5, o_setL5, o_ixT6, o_ixL6, o_setL6, o_ixT7, o_ixL7, o_setL7, o_ixT8, o_ixL8, o_setL8, o_ixT9, o_ixL9, o_setL9, o_divI, Option.map_some, Option.map_none, List.not_mem_nil, reduceIte, Bool.false_eq_true, List.mem_singleton, Nat.reduceLT, Nat.reduceLeDiff, Int.reduceLT, Int.reduceLE, Nat.reduceEqDiff, Int.reduceNeg, items5]) e3
  refine ⟨i, s', m', k2, .fz (.int l2), .fz (.tuple [.str (sg i), dS s', .int (m' : Int)]), x2, y2, z2, h1, hi, h3, h4, ?_, g2, n2⟩
  unfold bodyO EnO
  simp only [e_vName, e_vC, e_rd, e_fz, e_op1, e_op2, e_aNil, e_aCons, e_aLast, e_opN, e_dsp, e_opC, e_vOr, e_vAnd, e_vNot, e_vIf, e_tst, e_tru, e_tAnd, e_tOr, e_tNot, e_opMt, e_ptNone, e_ptSome, e_opSl, e_opSt, e_callF, e_callIo, e_mMut, e_vDict0, e_vDict, e_dCons, e_dNil, e_sNil, e_sSeq, e_sIf, e_sRet, e_sRetN, e_sExpr, e_sBk, e_sCt, e_sSet, e_slF, e_sAsg, e_sPut, e_iSeq, e_iRange1, e_iRange2, e_iEnum, e_tstYes, e_gN0, e_gT, e_gsNil, e_gsCons, e_eqI, fzR, Rv.get, getA, allFz, appO, Out.rv, List.getElem?_cons_zero, List.getElem?_cons_succ, List.set_cons_zero, List.set_cons_succ, Nat.reduceAdd, List.length_cons, List.length_nil, if_true, if_false, one, decide_true, decide_false, Bool.xor_false, Bool.false_xor, Bool.true_xor, Bool.not_true, Bool.not_false, oTup, oLst, splitL, List.cons_append, List.nil_append, e_gN, and_self, o_addI, o_subI, o_mulI, o_modI, o_neg, o_ltI, o_leI, o_gtI, o_geI, o_isN, o_nN, o_nB, o_nI, o_nS, o_nT, o_nL, o_nD, o_isB, o_itL, o_itT, o_listL, o_listT, o_tupL, o_tupT, o_lenL, o_lenT, o_lenS, o_abs, o_toInt, o_app, o_ixTn, o_ixLn, o_ixDct, o_inDct, o_setLn, o_setDct, o_sumL, o_sumT, o_ln0, o_ln1, o_ln2, o_ln3, o_ln4, o_ln5, o_ln6, o_ln7, o_ln8, o_ln9, o_ln10, o_ln11, o_ixT0, o_ixL0, o_setL0, o_ixT1, o_ixL1, o_setL1, o_ixT2, o_ixL2, o_setL2, o_ixT3, o_ixL3, o_setL3, o_ixT4, o_ixL4, o_setL4, o_ixT5, o_ixL5, o_setL5, o_ixT6, o_ixL6, o_setL6, o_ixT7, o_ixL7, o_setL7, o_ixT8, o_ixL8, o_setL8, o_ixT9, o_ixL9, o_setL9, o_divI, Option.map_some, Option.map_none, List.not_mem_nil, reduceIte, Bool.false_eq_true, List.mem_singleton, Nat.reduceLT, Nat.reduceLeDiff, Int.reduceLT, Int.reduceLE, Nat.reduceEqDiff, Int.reduceNeg, e4, ap]
/-- how many are known more behind L places -/
def Bd : Nat → Nat
  | 0 => 0
  | L + 1 => 5 * Ad L + Bd L
theorem outer {kd : T3.D} : ∀ (L : Nat) (s : St) (p m : Nat) (l : List Nat) (kvs : List (T3.D × T3.D)) (a b c x y z : Slot), tot s = L → L < 12 → m < ways L s (evn p) → l.length + L < 100 → Good kvs → kvs.length + Bd L ≤ line →
    ∃ m' kvs' s' a' b' c' x' y' z', fl (gN [] 5) bodyO ((List.range' p L).map fun j => .int ((j : Nat) : Int)) (EnO kd m kvs s (txt l) a b c x y z) = .nx (EnO kd m' kvs' s' (txt (l ++ rowOf L s (evn p) m)) a' b' c' x' y' z')
  | 0, s, p, m, l, kvs, a, b, c, x, y, z, _, _, _, _, _, _ => by
    refine ⟨m, kvs, s, a, b, c, x, y, z, ?_⟩
    unfold rowOf
    rw [List.append_nil]
    rfl
  | L + 1, s, p, m, l, kvs, a, b, c, x, y, z, hL, hL2, hm, hll, hg, hl => by
    have hB : Bd (L + 1) = 5 * Ad L + Bd L := rfl
    obtain ⟨i, s', m', k1, b1, c1, x1, y1, z1, h1, h2, h3, h4, e1, g1, n1⟩ := outer1 (kd := kd) (l := l) hL (by omega) hm (by omega) hg (by omega) b c x y z
    have ht := stp_tot h3
    rw [← evn_succ] at h4
    obtain ⟨m2, k2, s2, a2, b2, c2, x2, y2, z2, e2⟩ := outer (kd := kd) L s' (p + 1) m' (l ++ [i]) k1 (.fz (.int (p : Int))) b1 c1 x1 y1 z1 (by omega) (by omega) h4 (by simp; omega) g1 (by omega)
    refine ⟨m2, k2, s2, a2, b2, c2, x2, y2, z2, ?_⟩
    have hr : rowOf (L + 1) s (evn p) m = i :: rowOf L s' (evn (p + 1)) m' := by
      rw [evn_succ]
      show (match pk L s (evn p) [0, 1, 2, 3, 4] m with
        | none => []
        | some (i, s', m') => i :: rowOf L s' (!evn p) m') = _
      rw [h1]
    rw [hr, List.range'_succ, List.map_cons, e_flC, show gN [] 5 (.int ((p : Nat) : Int)) (EnO kd m kvs s (txt l) a b c x y z) = some (EnO kd m kvs s (txt l) (.fz (.int (p : Int))) b c x y z) from rfl]
    dsimp only
    rw [e1]
    dsimp only
    rw [e2, List.append_assoc]
    rfl
end K77
end

section
set_option autoImplicit false
namespace K77
open PySem PySem.Spec PyProof.Rows L2 T3
theorem room10 (L : Nat) (h : L ≤ 10) : Ad L + Bd L ≤ line := by
  have : ∀ L, L ≤ 10 → Ad L + Bd L ≤ 16777216 := by decide
  exact this L h
theorem range_map (n : Nat) : rangeD 0 (n : Int) = (List.range' 0 n).map fun j => PyData.int ((j : Nat) : Int) := by
  unfold rangeD
  rw [List.range_eq_range']
  have : ((n : Int) - 0).toNat = n := by omega
  rw [this]
  refine List.map_congr_left fun j _ => ?_
  rw [Int.zero_add]
theorem tot_fs (b n q : Nat) : tot (fs b n q) = b + n + q + 3 := by unfold tot fs; dsimp only; omega
theorem outer0 {b n q m : Nat} (h : b + n + q ≤ 7) (hm : m < ways (b + n + q + 3) (fs b n q) true) (k1 : List (T3.D × T3.D)) (g1 : Good k1) (l1 : k1.length ≤ Ad (b + n + q + 3)) :
    ∃ m2 k2 s2 a2 b2 c2 x2 y2 z2, fl (gN [] 5) bodyO (rangeD 0 ((b + n + q + 3 : Nat) : Int)) (EnO (kD b n q) m k1 (fs b n q) (txt []) .non .non .non .non .non .non) = .nx (EnO (kD b n q) m2 k2 s2 (txt (rowOf (b + n + q + 3) (fs b n q) true m)) a2 b2 c2 x2 y2 z2) := by
  have ht := tot_fs b n q
  have hR := room10 (b + n + q + 3) (by omega)
  obtain ⟨m2, k2, s2, a2, b2, c2, x2, y2, z2, e2⟩ := outer (kd := kD b n q) (b + n + q + 3) (fs b n q) 0 m [] k1 .non .non .non .non .non .non ht (by omega) hm (by simp; omega) g1 (by omega)
  rw [List.nil_append] at e2
  rw [range_map]
  exact ⟨m2, k2, s2, a2, b2, c2, x2, y2, z2, e2⟩
theorem for0 {b n q m : Nat} {kd : T3.D} {s : St} {k1 : List (T3.D × T3.D)} {o : O} (hs : pSum [kd] = some (.fz (.int ((b + n + q : Nat) : Int)))) (h : b + n + q ≤ 7) (e : fl (gN [] 5) bodyO (rangeD 0 ((b + n + q + 3 : Nat) : Int)) (EnO kd m k1 s (txt []) .non .non .non .non .non .non) = o) :
    sFor (iRange1 (op2 pAdd (opN pSum (aLast (vName 0))) (vC (.int 3)))) (gN [] 5) bodyO (EnO kd m k1 s (txt []) .non .non .non .non .non .non) = o := by
  refine for_ok ?_ e
  have s3 : ((b + n + q : Nat) : Int) + 3 = ((b + n + q + 3 : Nat) : Int) := by omega
  have r1 : fit62 ((b + n + q + 3 : Nat) : Int) = true := fit62_nat (by omega)
  unfold EnO
  simp only [e_vName, e_vC, e_rd, e_fz, e_op1, e_op2, e_aNil, e_aCons, e_aLast, e_opN, e_dsp, e_opC, e_vOr, e_vAnd, e_vNot, e_vIf, e_tst, e_tru, e_tAnd, e_tOr, e_tNot, e_opMt, e_ptNone, e_ptSome, e_opSl, e_opSt, e_callF, e_callIo, e_mMut, e_vDict0, e_vDict, e_dCons, e_dNil, e_sNil, e_sSeq, e_sIf, e_sRet, e_sRetN, e_sExpr, e_sBk, e_sCt, e_sSet, e_slF, e_sAsg, e_sPut, e_iSeq, e_iRange1, e_iRange2, e_iEnum, e_tstYes, e_gN0, e_gT, e_gsNil, e_gsCons, e_eqI, fzR, Rv.get, getA, allFz, appO, Out.rv, List.getElem?_cons_zero, List.getElem?_cons_succ, List.set_cons_zero, List.set_cons_succ, Nat.reduceAdd, List.length_cons, List.length_nil, if_true, if_false, one, decide_true, decide_false, Bool.xor_false, Bool.false_xor, Bool.true_xor, Bool.not_true, Bool.not_false, oTup, oLst, splitL, List.cons_append, List.nil_append, e_gN, and_self, o_addI, o_subI, o_mulI, o_modI, o_neg, o_ltI, o_leI, o_gtI, o_geI, o_isN, o_nN, o_nB, o_nI, o_nS, o_nT, o_nL, o_nD, o_isB, o_itL, o_itT, o_listL, o_listT, o_tupL, o_tupT, o_lenL, o_lenT, o_lenS, o_abs, o_toInt, o_app, o_ixTn, o_ixLn, o_ixDct, o_inDct, o_setLn, o_setDct, o_sumL, o_sumT, o_ln0, o_ln1, o_ln2, o_ln3, o_ln4, o_ln5, o_ln6, o_ln7, o_ln8, o_ln9, o_ln10, o_ln11, o_ixT0, o_ixL0, o_setL0, o_ixT1, o_ixL1, o_setL1, o_ixT2, o_ixL2, o_setL2, o_ixT3, o_ixL3, o_setL3, o_ixT4, o_ixL4, o_setL4, o_ixT5, o_ixL5, o_setL5, o_ixT6, o_ixL6, o_setL6, o_ixT7, o_ixL7, o_setL7, o_ixT8, o_ixL8, o_setL8, o_ixT9, o_ixL9, o_setL9, o_divI, Option.map_some, Option.map_none, List.not_mem_nil, reduceIte, Bool.false_eq_true, List.mem_singleton, Nat.reduceLT, Nat.reduceLeDiff, Int.reduceLT, Int.reduceLE, Nat.reduceEqDiff, Int.reduceNeg, hs, s3, r1]
theorem body0 {fc ff fw : List T3.D → FR} {lp : SX} {kd sd : T3.D} {m w : Nat} {k1 : List (T3.D × T3.D)} {e : En} {r : T3.D} (c : fc [kd] = .ok .none none) (f : ff [kd] = .ok sd none) (h1 : fw [sd, .int 0, .dict []] = .ok (.int (w : Int)) (some (.dict k1))) (hm : m < w)
    (e4 : lp [.fz kd, .fz (.int (m : Int)), .ow (.dict k1), .fz sd, .fz (.str (txt [])), .non, .non, .non, .non, .non, .non] = .nx e) (he : e[4]? = some (.fz r)) :
    (sSeq (sExpr (callF false fc (aCons (fz [] (vName 0)) (aNil)))) (sSeq (sSet [] 2 (vDict0)) (sSeq (sSet [] 3 (callF false ff (aCons (fz [] (vName 0)) (aNil)))) (sSeq (sIf (tNot (tst (opC pLe pLt (vC (.int 0)) (vName 1) (callIo false fw (aCons (vName 3) (aCons (vC (.int 0)) (aLast (vName 2)))))))) (sBad) (sNil)) (sSeq (sSet [] 4 (vC (.str (txt [])))) (sSeq lp (sRet (vName 4)))))))) [.fz kd, .fz (.int (m : Int)), .non, .non, .non, .non, .non, .non, .non, .non, .non] = .rt (.fz r) e := by
  have c0 : (0 : Int) ≤ (m : Int) := by omega
  have c1 : (m : Int) < (w : Int) := by omega
  simp only [e_vName, e_vC, e_rd, e_fz, e_op1, e_op2, e_aNil, e_aCons, e_aLast, e_opN, e_dsp, e_opC, e_vOr, e_vAnd, e_vNot, e_vIf, e_tst, e_tru, e_tAnd, e_tOr, e_tNot, e_opMt, e_ptNone, e_ptSome, e_opSl, e_opSt, e_callF, e_callIo, e_mMut, e_vDict0, e_vDict, e_dCons, e_dNil, e_sNil, e_sSeq, e_sIf, e_sRet, e_sRetN, e_sExpr, e_sBk, e_sCt, e_sSet, e_slF, e_sAsg, e_sPut, e_iSeq, e_iRange1, e_iRange2, e_iEnum, e_tstYes, e_gN0, e_gT, e_gsNil, e_gsCons, e_eqI, fzR, Rv.get, getA, allFz, appO, Out.rv, List.getElem?_cons_zero, List.getElem?_cons_succ, List.set_cons_zero, List.set_cons_succ, Nat.reduceAdd, List.length_cons, List.length_nil, if_true, if_false, one, decide_true, decide_false, Bool.xor_false, Bool.false_xor, Bool.true_xor, Bool.not_true, Bool.not_false, oTup, oLst, splitL, List.cons_append, List.nil_append, e_gN, and_self, o_addI, o_subI, o_mulI, o_modI, o_neg, o_ltI, o_leI, o_gtI, o_geI, o_isN, o_nN, o_nB, o_nI, o_nS, o_nT, o_nL, o_nD, o_isB, o_itL, o_itT, o_listL, o_listT, o_tupL, o_tupT, o_lenL, o_lenT, o_lenS, o_abs, o_toInt, o_app, o_ixTn, o_ixLn, o_ixDct, o_inDct, o_setLn, o_setDct, o_sumL, o_sumT, o_ln0, o_ln1, o_ln2, o_ln3, o_ln4, o_ln5, o_ln6, o_ln7, o_ln8, o_ln9, o_ln10, o_ln11, o_ixT0, o_ixL0, o_setL0, o_ixT1, o_ixL1, o_setL1, o_ixT2, o_ixL2, o_setL2, o_ixT3, o_ixL3, o_setL3, o_ixT4, o_ixL4, o_setL4, o_ixT5, o_ixL5, o_setL5, o_ixT6, o_ixL6, o_setL6, o_ixT7, o_ixL7, o_setL7, o_ixT8, o_ixL8, o_setL8, o_ixT9, o_ixL9, o_setL9, o_divI, Option.map_some, Option.map_none, List.not_mem_nil, reduceIte, Bool.false_eq_true, List.mem_singleton, Nat.reduceLT, Nat.reduceLeDiff, Int.reduceLT, Int.reduceLE, Nat.reduceEqDiff, Int.reduceNeg, c, f, h1, c0, c1, e4, he]
theorem row_body : B_row_of = (sSeq (sExpr (callF false F_check_kind (aCons (fz [] (vName 0)) (aNil)))) (sSeq (sSet [] 2 (vDict0)) (sSeq (sSet [] 3 (callF false F_first_state (aCons (fz [] (vName 0)) (aNil)))) (sSeq (sIf (tNot (tst (opC pLe pLt (vC (.int 0)) (vName 1) (callIo false (F_ways_from 12) (aCons (vName 3) (aCons (vC (.int 0)) (aLast (vName 2)))))))) (sBad) (sNil)) (sSeq (sSet [] 4 (vC (.str (txt [])))) (sSeq (sFor (iRange1 (op2 pAdd (opN pSum (aLast (vName 0))) (vC (.int 3)))) (gN [] 5) bodyO) (sRet (vName 4)))))))) := by rw [← txt_nil]; rfl
theorem row_ok {b n q m : Nat} (h : b + n + q ≤ 7) (hm : m < ways (b + n + q + 3) (fs b n q) true) : F_row_of [kD b n q, .int (m : Int)] = .ok (.str (txt (rowOf (b + n + q + 3) (fs b n q) true m))) none := by
  have ht := tot_fs b n q
  have hR := room10 (b + n + q + 3) (by omega)
  obtain ⟨k1, h1, g1, l1⟩ := ways_ok 12 (fs b n q) 0 [] (by omega) (fun q hq => by cases hq) (by rw [ht]; simp; omega)
  rw [ht] at h1 l1
  have l1 : k1.length ≤ Ad (b + n + q + 3) := by simpa using l1
  obtain ⟨m2, k2, s2, a2, b2, c2, x2, y2, z2, e2⟩ := outer0 h hm k1 g1 l1
  have e3 := for0 (sum_kD b n q) h e2
  have t := body0 (check_ok h) (first_ok b n q) h1 hm e3 rfl
  unfold F_row_of mkFn
  rw [if_pos ⟨rfl, fun h => by cases h⟩, row_body]
  exact congrArg (T3.finish false false 1) t
end K77
end

section
set_option autoImplicit false
namespace K77
open PySem PySem.Spec PyProof.Rows L2 T3
/-! ### the number of a row -/
def rank : Nat → St → Bool → List Nat → Nat
  | L + 1, s, ev, i :: l => ((List.range i).map (wi L s ev)).sum + match stp s ev i with
    | none => 0
    | some s' => rank L s' (!ev) l
  | _, _, _, _ => 0
def acc : Nat → St → Bool → List Nat → Prop
  | 0, s, _, [] => s.g ≤ 1 ∧ -1 ≤ s.g
  | L + 1, s, ev, i :: l => i < 5 ∧ ∃ s', stp s ev i = some s' ∧ acc L s' (!ev) l
  | _, _, _, _ => False
def bodyJ (fst fw : List T3.D → FR) : SX := sSeq (sSet [] 8 (callF false fst (aCons (fz [] (vName 3)) (aCons (fz [] (vName 7)) (aCons (fz [] (vName 5)) (aNil))))))
    (sSet [] 4 (op2 pAdd (vName 4) (vIf (tst (op2 (pIs false) (vName 8) (vC .none))) (vC (.int 0)) (callIo false fw (aCons (vName 8) (aCons (op2 pAdd (vName 5) (vC (.int 1))) (aLast (vName 2))))))))
theorem turnJ {fst fw : List T3.D → FR} {kd rw sd od td : T3.D} {sn : Slot} {p f w : Nat} {kvs kvs' : List (T3.D × T3.D)} (y : Slot) (h1 : fst [sd, od, .int (p : Int)] = .ok td none)
    (h2 : (isNone td = true ∧ w = 0 ∧ kvs' = kvs) ∨ (isNone td = false ∧ fw [td, .int ((p + 1 : Nat) : Int), .dict kvs] = .ok (.int (w : Int)) (some (.dict kvs')))) :
    bodyJ fst fw [.fz kd, .fz rw, .ow (.dict kvs), .fz sd, .fz (.int (f : Int)), .fz (.int (p : Int)), sn, .fz od, y] = .nx [.fz kd, .fz rw, .ow (.dict kvs'), .fz sd, .fz (.int ((f + w : Nat) : Int)), .fz (.int (p : Int)), sn, .fz od, .fz td] := by
  have pc : ((p : Int) + 1) = ((p + 1 : Nat) : Int) := by omega
  unfold bodyJ
  rcases h2 with ⟨a, rfl, rfl⟩ | ⟨a, b⟩
  · simp only [e_vName, e_vC, e_rd, e_fz, e_op1, e_op2, e_aNil, e_aCons, e_aLast, e_opN, e_dsp, e_opC, e_vOr, e_vAnd, e_vNot, e_vIf, e_tst, e_tru, e_tAnd, e_tOr, e_tNot, e_opMt, e_ptNone, e_ptSome, e_opSl, e_opSt, e_callF, e_callIo, e_mMut, e_vDict0, e_vDict, e_dCons, e_dNil, e_sNil, e_sSeq, e_sIf, e_sRet, e_sRetN, e_sExpr, e_sBk, e_sCt, e_sSet, e_slF, e_sAsg, e_sPut, e_iSeq, e_iRange1, e_iRange2, e_iEnum, e_tstYes, e_gN0, e_gT, e_gsNil, e_gsCons, e_eqI, fzR, Rv.get, getA, allFz, appO, Out.rv, List.getElem?_cons_zero, List.getElem?_cons_succ, List.set_cons_zero, List.set_cons_succ, Nat.reduceAdd, List.length_cons, List.length_nil, if_true, if_false, one, decide_true, decide_false, Bool.xor_false, Bool.false_xor, Bool.true_xor, Bool.not_true, Bool.not_false, oTup, oLst, splitL, List.cons_append, List.nil_append, e_gN, and_self, o_addI, o_subI, o_mulI, o_modI, o_neg, o_ltI, o_leI, o_gtI, o_geI, o_isN, o_nN, o_nB, o_nI, o_nS, o_nT, o_nL, o_nD, o_isB, o_itL, o_itT, o_listL, o_listT, o_tupL, o_tupT, o_lenL, o_lenT, o_lenS, o_abs, o_toInt, o_app, o_ixTn, o_ixLn, o_ixDct, o_inDct, o_setLn, o_setDct, o_sumL, o_sumT, o_ln0, o_ln1, o_ln2, o_ln3, o_ln4, o_ln5, o_ln6, o_ln7, o_ln8, o_ln9, o_ln10, o_ln11, o_ixT0, o_ixL0, o_setL0, o_ixT1, o_ixL1, o_setL1, o_ixT2, o_ixL2, o_setL2, o_ixT3, o_ixL3, o_setL3, o_ixT4, o_ixL4, o_setL4, o_ixT5, o_ixL5, o_setL5, o_ixT6, o_ixL6, o_setL6, o_ixT7, o_ixL7, o_setL7, o_ixT8, o_ixL8, o_setL8, o_ixT9, o_ixL9, o_setL9, o_divI, Option.map_some, Option.map_none, List.not_mem_nil, reduceIte, Bool.false_eq_true, List.mem_singleton, Nat.reduceLT, Nat.reduceLeDiff, Int.reduceLT, Int.reduceLE, Nat.reduceEqDiff, Int.reduceNeg, h1, a, Int.add_zero, Nat.add_zero]
  · have fc : ((f + w : Nat) : Int) = (f : Int) + (w : Int) := by omega
    simp only [e_vName, e_vC, e_rd, e_fz, e_op1, e_op2, e_aNil, e_aCons, e_aLast, e_opN, e_dsp, e_opC, e_vOr, e_vAnd, e_vNot, e_vIf, e_tst, e_tru, e_tAnd, e_tOr, e_tNot, e_opMt, e_ptNone, e_ptSome, e_opSl, e_opSt, e_callF, e_callIo, e_mMut, e_vDict0, e_vDict, e_dCons, e_dNil, e_sNil, e_sSeq, e_sIf, e_sRet, e_sRetN, e_sExpr, e_sBk, e_sCt, e_sSet, e_slF, e_sAsg, e_sPut, e_iSeq, e_iRange1, e_iRange2, e_iEnum, e_tstYes, e_gN0, e_gT, e_gsNil, e_gsCons, e_eqI, fzR, Rv.get, getA, allFz, appO, Out.rv, List.getElem?_cons_zero, List.getElem?_cons_succ, List.set_cons_zero, List.set_cons_succ, Nat.reduceAdd, List.length_cons, List.length_nil, if_true, if_false, one, decide_true, decide_false, Bool.xor_false, Bool.false_xor, Bool.true_xor, Bool.not_true, Bool.not_false, oTup, oLst, splitL, List.cons_append, List.nil_append, e_gN, and_self, o_addI, o_subI, o_mulI, o_modI, o_neg, o_ltI, o_leI, o_gtI, o_geI, o_isN, o_nN, o_nB, o_nI, o_nS, o_nT, o_nL, o_nD, o_isB, o_itL, o_itT, o_listL, o_listT, o_tupL, o_tupT, o_lenL, o_lenT, o_lenS, o_abs, o_toInt, o_app, o_ixTn, o_ixLn, o_ixDct, o_inDct, o_setLn, o_setDct, o_sumL, o_sumT, o_ln0, o_ln1, o_ln2, o_ln3, o_ln4, o_ln5, o_ln6, o_ln7, o_ln8, o_ln9, o_ln10, o_ln11, o_ixT0, o_ixL0, o_setL0, o_ixT1, o_ixL1, o_setL1, o_ixT2, o_ixL2, o_setL2, o_ixT3, o_ixL3, o_setL3, o_ixT4, o_ixL4, o_setL4, o_ixT5, o_ixL5, o_setL5, o_ixT6, o_ixL6, o_setL6, o_ixT7, o_ixL7, o_setL7, o_ixT8, o_ixL8, o_setL8, o_ixT9, o_ixL9, o_setL9, o_divI, Option.map_some, Option.map_none, List.not_mem_nil, reduceIte, Bool.false_eq_true, List.mem_singleton, Nat.reduceLT, Nat.reduceLeDiff, Int.reduceLT, Int.reduceLE, Nat.reduceEqDiff, Int.reduceNeg, h1, a, pc, b, fc]
abbrev En9 (kd rw : T3.D) (kvs : List (T3.D × T3.D)) (s : St) (f : Nat) (pl sn x y : Slot) : En := [.fz kd, .fz rw, .ow (.dict kvs), .fz (dS s), .fz (.int (f : Int)), pl, sn, x, y]
theorem innerJ {kd rw : T3.D} {s : St} {p L : Nat} {sn : Slot} (hL : tot s = L + 1) (hL2 : L < 12) : ∀ (is : List Nat), (∀ i ∈ is, i < 5) → ∀ (kvs : List (T3.D × T3.D)) (f : Nat) (x y : Slot), Good kvs → kvs.length + is.length * Ad L ≤ line →
    ∃ kvs' x' y', fl (gN [] 7) (bodyJ F_step (F_ways_from 12)) (is.map fun i => .str (sg i)) (En9 kd rw kvs s f (.fz (.int (p : Int))) sn x y) = .nx (En9 kd rw kvs' s (f + (is.map (wi L s (evn p))).sum) (.fz (.int (p : Int))) sn x' y') ∧ Good kvs' ∧ kvs'.length ≤ kvs.length + is.length * Ad L
  | [], _, kvs, f, x, y, hg, _ => ⟨kvs, x, y, rfl, hg, by simp⟩
  | i :: is, hi, kvs, f, x, y, hg, hl => by
    rw [List.length_cons, Nat.succ_mul] at hl
    have st := step_ok s p i (hi i List.mem_cons_self)
    obtain ⟨k1, e1, g1, l1⟩ : ∃ k1, bodyJ F_step (F_ways_from 12) (En9 kd rw kvs s f (.fz (.int (p : Int))) sn (.fz (.str (sg i))) y) = .nx (En9 kd rw k1 s (f + wi L s (evn p) i) (.fz (.int (p : Int))) sn (.fz (.str (sg i))) (.fz (dO (stp s (evn p) i)))) ∧ Good k1 ∧ k1.length ≤ kvs.length + Ad L := by
      cases h : stp s (evn p) i with
      | none =>
        rw [h] at st
        have hw : wi L s (evn p) i = 0 := by unfold wi; rw [h]
        rw [hw]
        exact ⟨kvs, turnJ y st (.inl ⟨rfl, rfl, rfl⟩), hg, by omega⟩
      | some s' =>
        rw [h] at st
        have hw : wi L s (evn p) i = ways L s' (!evn p) := by unfold wi; rw [h]
        rw [hw]
        obtain ⟨kvs', e1, e2, e3⟩ := ways12 hL hL2 h hg (by omega)
        exact ⟨kvs', turnJ y st (.inr ⟨rfl, e1⟩), e2, e3⟩
    obtain ⟨k2, x2, y2, e2, g2, l2⟩ := innerJ (kd := kd) (rw := rw) (p := p) (sn := sn) hL hL2 is (fun j hj => hi j (List.mem_cons_of_mem _ hj)) k1 (f + wi L s (evn p) i) (.fz (.str (sg i))) (.fz (dO (stp s (evn p) i))) g1 (by omega)
    refine ⟨k2, x2, y2, ?_, g2, by rw [List.length_cons, Nat.succ_mul]; omega⟩
    rw [List.map_cons, e_flC, show gN [] 7 (.str (sg i)) (En9 kd rw kvs s f (.fz (.int (p : Int))) sn x y) = some (En9 kd rw kvs s f (.fz (.int (p : Int))) sn (.fz (.str (sg i))) y) from rfl]
    dsimp only
    rw [e1]
    dsimp only
    rw [e2, List.map_cons, List.sum_cons, Nat.add_assoc]
/-- the signs ahead of the i-th -/
def ahead : EX := opSl (vC (.str "BKNQR")) (ptNone) (ptSome (opMt pSIndex (vC (.str "BKNQR")) (aLast (vName 6))))
theorem ahead_ok : ∀ i, i < 5 → ∀ (a b c d e f x y : Slot), iSeq [] ahead [a, b, c, d, e, f, .fz (.str (sg i)), x, y] = .ok ((List.range i).map fun j => .str (sg j)) [a, b, c, d, e, f, .fz (.str (sg i)), x, y] := by
  intro i hi
  rcases i with _ | _ | _ | _ | _ | i
  · intros; kernel_rfl
  · intros; kernel_rfl
  · intros; kernel_rfl
  · intros; kernel_rfl
  · intros; kernel_rfl
  · omega
def bodyK (fst : List T3.D → FR) (lp : SX) : SX := sSeq lp (sSet [] 3 (callF false fst (aCons (fz [] (vName 3)) (aCons (fz [] (vName 6)) (aCons (fz [] (vName 5)) (aNil))))))
theorem turnK {fst : List T3.D → FR} {lp : SX} {kd rw sd sd' gs : T3.D} {p f f' : Nat} {kvs kvs' : List (T3.D × T3.D)} {x y x' y' : Slot}
    (h1 : lp [.fz kd, .fz rw, .ow (.dict kvs), .fz sd, .fz (.int (f : Int)), .fz (.int (p : Int)), .fz gs, x, y] = .nx [.fz kd, .fz rw, .ow (.dict kvs'), .fz sd, .fz (.int (f' : Int)), .fz (.int (p : Int)), .fz gs, x', y'])
    (h2 : fst [sd, gs, .int (p : Int)] = .ok sd' none) :
    bodyK fst lp [.fz kd, .fz rw, .ow (.dict kvs), .fz sd, .fz (.int (f : Int)), .fz (.int (p : Int)), .fz gs, x, y] = .nx [.fz kd, .fz rw, .ow (.dict kvs'), .fz sd', .fz (.int (f' : Int)), .fz (.int (p : Int)), .fz gs, x', y'] := by
  unfold bodyK
  simp only [e_vName, e_vC, e_rd, e_fz, e_op1, e_op2, e_aNil, e_aCons, e_aLast, e_opN, e_dsp, e_opC, e_vOr, e_vAnd, e_vNot, e_vIf, e_tst, e_tru, e_tAnd, e_tOr, e_tNot, e_opMt, e_ptNone, e_ptSome, e_opSl, e_opSt, e_callF, e_callIo, e_mMut, e_vDict0, e_vDict, e_dCons, e_dNil, e_sNil, e_sSeq, e_sIf, e_sRet, e_sRetN, e_sExpr, e_sBk, e_sCt, e_sSet, e_slF, e_sAsg, e_sPut, e_iSeq, e_iRange1, e_iRange2, e_iEnum, e_tstYes, e_gN0, e_gT, e_gsNil, e_gsCons, e_eqI, fzR, Rv.get, getA, allFz, appO, Out.rv, List.getElem?_cons_zero, List.getElem?_cons_succ, List.set_cons_zero, List.set_cons_succ, Nat.reduceAdd, List.length_cons, List.length_nil, if_true, if_false, one, decide_true, decide_false, Bool.xor_false, Bool.false_xor, Bool.true_xor, Bool.not_true, Bool.not_false, oTup, oLst, splitL, List.cons_append, List.nil_append, e_gN, and_self, o_addI, o_subI, o_mulI, o_modI, o_neg, o_ltI, o_leI, o_gtI, o_geI, o_isN, o_nN, o_nB, o_nI, o_nS, o_nT, o_nL, o_nD, o_isB, o_itL, o_itT, o_listL, o_listT, o_tupL, o_tupT, o_lenL, o_lenT, o_lenS, o_abs, o_toInt, o_app, o_ixTn, o_ixLn, o_ixDct, o_inDct, o_setLn, o_setDct, o_sumL, o_sumT, o_ln0, o_ln1, o_ln2, o_ln3, o_ln4, o_ln5, o_ln6, o_ln7, o_ln8, o_ln9, o_ln10, o_ln11, o_ixT0, o_ixL0, o_setL0, o_ixT1, o_ixL1, o_setL1, o_ixT2, o_ixL2, o_setL2, o_ixT3, o_ixL3, o_setL3, o_ixT4, o_ixL4, o_setL4, o_ixT5, o_ixL5, o_setL5, o_ixT6, o_ixL6, o_setL6, o_ixT7, o_ixL7, o_setL7, o_ixT8, o_ixL8, o_setL8, o_ixT9, o_ixL9, o_setL9, o_divI, Option.map_some, Option.map_none, List.not_mem_nil, reduceIte, Bool.false_eq_true, List.mem_singleton, Nat.reduceLT, Nat.reduceLeDiff, Int.reduceLT, Int.reduceLE, Nat.reduceEqDiff, Int.reduceNeg, h1, h2]
abbrev lpJ : SX := sFor (iSeq [] ahead) (gN [] 7) (bodyJ F_step (F_ways_from 12))
theorem outerK {kd rw : T3.D} : ∀ (l : List Nat) (L : Nat) (s : St) (p f : Nat) (kvs : List (T3.D × T3.D)) (a b x y : Slot), tot s = L → L < 12 → acc L s (evn p) l → Good kvs → kvs.length + Bd L ≤ line →
    ∃ kvs' s' a' b' x' y', fl (gT 2 (gsCons (gN [] 5) (gsCons (gN [] 6) gsNil))) (bodyK F_step lpJ) (num p (l.map fun i => .str (sg i))) (En9 kd rw kvs s f a b x y) = .nx (En9 kd rw kvs' s' (f + rank L s (evn p) l) a' b' x' y')
  | [], 0, s, p, f, kvs, a, b, x, y, _, _, _, _, _ => ⟨kvs, s, a, b, x, y, rfl⟩
  | [], L + 1, s, p, f, kvs, a, b, x, y, _, _, h, _, _ => h.elim
  | i :: l, 0, s, p, f, kvs, a, b, x, y, _, _, h, _, _ => h.elim
  | i :: l, L + 1, s, p, f, kvs, a, b, x, y, hL, hL2, h, hg, hl => by
    have hB : Bd (L + 1) = 5 * Ad L + Bd L := rfl
    obtain ⟨hi, s', hs, ha⟩ := h
    have ht := stp_tot hs
    have st : F_step [dS s, .str (sg i), .int (p : Int)] = .ok (dS s') none := by
      have st := step_ok s p i hi
      rw [hs] at st
      exact st
    have hlen : (List.range i).length * Ad L ≤ 5 * Ad L := by
      rw [List.length_range]
      exact Nat.mul_le_mul_right _ (by omega)
    obtain ⟨k1, x1, y1, e1, g1, l1⟩ := innerJ (kd := kd) (rw := rw) (p := p) (sn := .fz (.str (sg i))) hL (by omega) (List.range i) (fun j hj => by have := List.mem_range.mp hj; omega) kvs f x y hg (by omega)
    have e2 : lpJ (En9 kd rw kvs s f (.fz (.int (p : Int))) (.fz (.str (sg i))) x y) = _ := for_ok (ahead_ok i hi _ _ _ _ _ _ _ _) e1
    have e3 := turnK e2 st
    rw [← evn_succ] at ha
    obtain ⟨k2, s2, a2, b2, x2, y2, e4⟩ := outerK (kd := kd) (rw := rw) l L s' (p + 1) (f + ((List.range i).map (wi L s (evn p))).sum) k1 (.fz (.int (p : Int))) (.fz (.str (sg i))) x1 y1 (by omega) (by omega) ha g1 (by omega)
    refine ⟨k2, s2, a2, b2, x2, y2, ?_⟩
    have hr : rank (L + 1) s (evn p) (i :: l) = ((List.range i).map (wi L s (evn p))).sum + rank L s' (evn (p + 1)) l := by
      rw [evn_succ]
      show _ + (match stp s (evn p) i with
        | none => 0
        | some s' => rank L s' (!evn p) l) = _
      rw [hs]
    rw [hr, List.map_cons]
    show fl _ _ (.tuple [.int (p : Int), .str (sg i)] :: num (p + 1) (l.map fun i => .str (sg i))) _ = _
    rw [e_flC, show gT 2 (gsCons (gN [] 5) (gsCons (gN [] 6) gsNil)) (.tuple [.int (p : Int), .str (sg i)]) (En9 kd rw kvs s f a b x y) = some (En9 kd rw kvs s f (.fz (.int (p : Int))) (.fz (.str (sg i))) x y) from rfl]
    dsimp only
    rw [e3]
    dsimp only
    rw [e4, Nat.add_assoc]
end K77
end

section
set_option autoImplicit false
namespace K77
open PySem PySem.Spec PyProof.Rows L2 T3
/-! ### texts of signs looked at -/
theorem txt_cps (l : List Nat) : (txt l).cps.toList = l.map cd := by unfold txt; simp
theorem cd_inj {i j : Nat} (hi : i < 5) (hj : j < 5) (h : cd i = cd j) : i = j := by
  have : ∀ i, i < 5 → ∀ j, j < 5 → cd i = cd j → i = j := by decide
  exact this i hi j hj h
theorem sg_cps {i : Nat} (hi : i < 5) : sg i = ⟨#[cd i]⟩ := by
  rw [sg_txt i hi]
  unfold txt
  simp
def Sgs (l : List Nat) : Prop := ∀ i ∈ l, i < 5
theorem mem_cd {l : List Nat} (h : Sgs l) {i : Nat} (hi : i < 5) : cd i ∈ l.map cd ↔ i ∈ l := by
  constructor
  · intro z
    obtain ⟨j, hj, e⟩ := List.mem_map.mp z
    rw [← cd_inj (h j hj) hi e]
    exact hj
  · exact fun z => List.mem_map.mpr ⟨i, z, rfl⟩
theorem in_txt (n : Bool) {l : List Nat} (h : Sgs l) {i : Nat} (hi : i < 5) : pInA n (.str (sg i)) (.str (txt l)) = some (.fz (.bool (n ^^ decide (i ∈ l)))) := by
  have e : pInA n (.str (sg i)) (.str (txt l)) = some (.fz (.bool (n ^^ !(Builtin.Str.occurrences (txt l) (sg i) 0 (txt l).length 1).isEmpty))) := rfl
  rw [e, sg_cps hi, StrLaws.found_one, txt_cps]
  by_cases c : i ∈ l
  · rw [decide_eq_true c, decide_eq_true ((mem_cd h hi).mpr c)]
  · rw [decide_eq_false c, decide_eq_false fun z => c ((mem_cd h hi).mp z)]
theorem signs_txt {l : List Nat} (h : Sgs l) : T3.signs (txt l) = l.map fun i => .str (sg i) := by
  unfold T3.signs
  rw [txt_cps, List.map_map]
  exact List.map_congr_left fun i hi => by
    show PyData.str _ = _
    rw [sg_cps (h i hi)]
theorem get_cd {l : List Nat} (h : Sgs l) {i k : Nat} (hi : i < 5) : (l.map cd)[k]? = some (cd i) ↔ l[k]? = some i := by
  rw [List.getElem?_map]
  constructor
  · intro z
    cases e : l[k]? with
    | none => rw [e] at z; cases z
    | some j =>
      rw [e] at z
      rw [cd_inj (h j (List.mem_of_getElem? e)) hi (Option.some.inj z)]
  · intro z; rw [z]; rfl
theorem index_txt {l : List Nat} (h : Sgs l) {i : Nat} (hi : i < 5) (hm : i ∈ l) : ∃ k, pSIndex (.str (txt l)) [.str (sg i)] = some (.fz (.int ((k : Nat) : Int))) ∧ l[k]? = some i := by
  rcases StrLaws.occ_head (txt l) (sg i) 1 (Nat.le_refl 1) with ⟨h0, hn⟩ | ⟨k, r, h0, hk, _⟩
  · obtain ⟨k, hk⟩ := List.mem_iff_getElem?.mp hm
    refine absurd ?_ (hn k)
    rw [sg_cps hi]
    exact (StrLaws.subAt_one _ _ _).mpr (by rw [txt_cps]; exact (get_cd h hi).mpr hk)
  · refine ⟨k, ?_, ?_⟩
    · unfold pSIndex
      dsimp only
      rw [h0]
    · rw [sg_cps hi] at hk
      have := (StrLaws.subAt_one _ _ _).mp hk
      rw [txt_cps] at this
      exact (get_cd h hi).mp this
theorem count_txt {l : List Nat} (h : Sgs l) {i : Nat} (hi : i < 5) : pSCount (.str (txt l)) [.str (sg i)] = some (.fz (.int ((l.count i : Nat) : Int))) := by
  have e : pSCount (.str (txt l)) [.str (sg i)] = some (.fz (.int (Txt.count (txt l) (sg i)))) := rfl
  rw [e, sg_cps hi, count_cnt, txt_cps]
  congr 3
  clear e
  induction l with
  | nil => rfl
  | cons j l ih =>
    have ih := ih fun x hx => h x (List.mem_cons_of_mem _ hx)
    rw [List.map_cons, List.count_cons]
    show (if same (.str ⟨#[cd j]⟩) (.str ⟨#[cd i]⟩) = true then 1 else 0) + countIn (.str ⟨#[cd i]⟩) ((l.map cd).map fun n => PyData.str ⟨#[n]⟩) = _
    have ih : countIn (.str ⟨#[cd i]⟩) ((l.map cd).map fun n => PyData.str ⟨#[n]⟩) = ((l.count i : Nat) : Int) := ih
    rw [ih]
    have hs : same (.str ⟨#[cd j]⟩) (.str ⟨#[cd i]⟩) = decide (j = i) := by
      have e : same (.str ⟨#[cd j]⟩) (.str ⟨#[cd i]⟩) = ((⟨#[cd j]⟩ : Str) == ⟨#[cd i]⟩) := rfl
      rw [e]
      by_cases c : j = i
      · rw [c, decide_eq_true rfl]; simp
      · rw [decide_eq_false c]
        refine beq_eq_false_iff_ne.mpr fun z => c (cd_inj (h j List.mem_cons_self) hi ?_)
        have z : (#[cd j] : Array Nat) = #[cd i] := congrArg Str.cps z
        simpa using z
    rw [hs]
    by_cases c : j = i
    · simp [c]; omega
    · simp [c]
end K77
end

section
set_option autoImplicit false
/-! parts of texts -/
namespace T3
open PySem PySem.Spec PyProof.Rows L2
section
variable {α : Type}
mutual
def evs : List α → List α
  | [] => []
  | a :: l => a :: ods l
def ods : List α → List α
  | [] => []
  | _ :: l => evs l
end
theorem pick2 : ∀ (l : List α), (List.range ((l.length + 1) / 2)).filterMap (fun k => l[2 * k]?) = evs l
  | [] => by simp [evs]
  | [a] => by simp [evs, ods]
  | a :: b :: l => by
    have e : ((a :: b :: l).length + 1) / 2 = (l.length + 1) / 2 + 1 := by
      simp only [List.length_cons]
      omega
    have h0 : (a :: b :: l)[2 * 0]? = some a := rfl
    have h := pick2 l
    have e2 : ((fun k => (a :: b :: l)[2 * k]?) ∘ Nat.succ) = fun k => l[2 * k]? := by
      funext k
      show (a :: b :: l)[2 * (k + 1)]? = _
      rw [show 2 * (k + 1) = 2 * k + 1 + 1 from by omega, List.getElem?_cons_succ, List.getElem?_cons_succ]
    rw [e, List.range_succ_eq_map, List.filterMap_cons, h0, List.filterMap_map, e2, h]
    simp only [evs, ods]
theorem pick1 (l : List α) : (List.range (l.length / 2)).filterMap (fun k => l[1 + 2 * k]?) = ods l := by
  cases l with
  | nil => simp [ods]
  | cons a l =>
    simp only [ods]
    rw [← pick2 l, List.length_cons]
    congr 1
    funext k
    rw [show 1 + 2 * k = 2 * k + 1 from by omega, List.getElem?_cons_succ]
end
theorem stepS_list (z : Str) (lo hi : Option Int) (st : Int) : stepS z lo hi st = ⟨((Builtin.Str.strSliceIndices lo hi st z.length).filterMap (z.cps.toList[·]?)).toArray⟩ := by
  unfold stepS
  have e : (fun (x : Nat) => z.cps[x]?) = fun x => z.cps.toList[x]? := by
    funext k
    rw [Array.getElem?_toList]
  rw [e]
theorem ix_2 (n : Nat) : Builtin.Str.strSliceIndices none none 2 n = (List.range ((n + 1) / 2)).map fun k => 2 * k := by
  have c : (if (0 : Int) < (n : Int) then ((n : Int) - 0 + 2 - 1) / 2 else 0).toNat = (n + 1) / 2 := by split <;> omega
  have e : Builtin.Str.strSliceIndices none none 2 n = (List.range (if (0 : Int) < (n : Int) then ((n : Int) - 0 + 2 - 1) / 2 else 0).toNat).map fun (k : Nat) => ((0 : Int) + 2 * (k : Int)).toNat := rfl
  rw [e, c]
  exact List.map_congr_left fun k _ => by omega
theorem ix_12 (n : Nat) : Builtin.Str.strSliceIndices (some 1) none 2 n = (List.range (n / 2)).map fun k => 1 + 2 * k := by
  have e : Builtin.Str.strSliceIndices (some 1) none 2 n = (List.range (if max 0 (min (1 : Int) (n : Int)) < (n : Int) then ((n : Int) - max 0 (min (1 : Int) (n : Int)) + 2 - 1) / 2 else 0).toNat).map fun (k : Nat) => (max 0 (min (1 : Int) (n : Int)) + 2 * (k : Int)).toNat := rfl
  rw [e]
  have c : (if max 0 (min (1 : Int) (n : Int)) < (n : Int) then ((n : Int) - max 0 (min (1 : Int) (n : Int)) + 2 - 1) / 2 else 0).toNat = n / 2 := by split <;> omega
  rw [c]
  exact List.map_congr_left fun k hk => by
    have := List.mem_range.mp hk
    omega
theorem len_list (z : Str) : z.length = z.cps.toList.length := by simp [Str.length]
theorem stepS_2 (z : Str) : stepS z none none 2 = ⟨(evs z.cps.toList).toArray⟩ := by
  rw [stepS_list, ix_2, len_list, List.filterMap_map, ← pick2]
  rfl
theorem stepS_12 (z : Str) : stepS z (some 1) none 2 = ⟨(ods z.cps.toList).toArray⟩ := by
  rw [stepS_list, ix_12, len_list, List.filterMap_map, ← pick1]
  rfl
theorem fm_congr {α β : Type} {f g : α → Option β} : ∀ {l : List α}, (∀ a ∈ l, f a = g a) → l.filterMap f = l.filterMap g
  | [], _ => rfl
  | a :: l, h => by rw [List.filterMap_cons, List.filterMap_cons, h a List.mem_cons_self, fm_congr fun b hb => h b (List.mem_cons_of_mem _ hb)]
theorem rev_pick' {α : Type} : ∀ (m : List α), (List.range m.length).filterMap (fun k => m.reverse[m.length - 1 - k]?) = m
  | [] => rfl
  | a :: t => by
    rw [List.length_cons, List.range_succ_eq_map, List.filterMap_cons, List.reverse_cons]
    have h0 : (t.reverse ++ [a])[t.length + 1 - 1 - 0]? = some a := by
      rw [show t.length + 1 - 1 - 0 = t.reverse.length from by simp, List.getElem?_append_right (Nat.le_refl _), Nat.sub_self]
      rfl
    rw [h0, List.filterMap_map]
    have h1 : (List.range t.length).filterMap ((fun k => (t.reverse ++ [a])[t.length + 1 - 1 - k]?) ∘ Nat.succ) = (List.range t.length).filterMap fun k => t.reverse[t.length - 1 - k]? := by
      refine fm_congr fun k hk => ?_
      have hk := List.mem_range.mp hk
      show (t.reverse ++ [a])[t.length + 1 - 1 - (k + 1)]? = _
      rw [show t.length + 1 - 1 - (k + 1) = t.length - 1 - k from by omega, List.getElem?_append_left (by rw [List.length_reverse]; omega)]
    rw [h1, rev_pick' t]
theorem stepS_r (z : Str) : stepS z none none (-1) = ⟨z.cps.toList.reverse.toArray⟩ := by
  rw [stepS_list, picked_rev, len_list, List.filterMap_map]
  have h := rev_pick' z.cps.toList.reverse
  rw [List.reverse_reverse, List.length_reverse] at h
  rw [← h]
  rfl
end T3
end

section
set_option autoImplicit false
namespace K77
open PySem PySem.Spec PyProof.Rows L2 T3
structure Fit (b n q : Nat) (l : List Nat) : Prop where
  sg : Sgs l
  c0 : l.count 0 = b
  c1 : l.count 1 = 1
  c2 : l.count 2 = n
  c3 : l.count 3 = q
  c4 : l.count 4 = 2
  len : l.length = b + n + q + 3
  ord : ∀ k, l[k]? = some 1 → 4 ∈ l.take k ∧ 4 ∈ l.drop k
  bal : ((evs l).count 0 : Int) - (ods l).count 0 ≤ 1 ∧ -1 ≤ ((evs l).count 0 : Int) - (ods l).count 0
abbrev cmpE : EX := op2 (pEq true) (opMt pSCount (vName 1) (aLast (vName 4))) (op2 pIxA (vName 2) (vName 4))
theorem cmp_ok {b n q : Nat} {l : List Nat} (h : Fit b n q l) (kd : T3.D) : ∀ i, i < 5 → cmpE [.fz kd, .fz (.str (txt l)), .fz (stockD b n q), .non, .fz (.str (sg i))] = .ok (.fz (.bool false)) [.fz kd, .fz (.str (txt l)), .fz (stockD b n q), .non, .fz (.str (sg i))] := by
  intro i hi
  have c := count_txt h.sg hi
  have s : pIxA (stockD b n q) (.str (sg i)) = some (.fz (.int ((l.count i : Nat) : Int))) := by
    rcases i with _ | _ | _ | _ | _ | i
    · rw [h.c0]; kernel_rfl
    · rw [h.c1]; kernel_rfl
    · rw [h.c2]; kernel_rfl
    · rw [h.c3]; kernel_rfl
    · rw [h.c4]; kernel_rfl
    · omega
  simp only [e_vName, e_vC, e_rd, e_fz, e_op1, e_op2, e_aNil, e_aCons, e_aLast, e_opN, e_dsp, e_opC, e_vOr, e_vAnd, e_vNot, e_vIf, e_tst, e_tru, e_tAnd, e_tOr, e_tNot, e_opMt, e_ptNone, e_ptSome, e_opSl, e_opSt, e_callF, e_callIo, e_mMut, e_vDict0, e_vDict, e_dCons, e_dNil, e_sNil, e_sSeq, e_sIf, e_sRet, e_sRetN, e_sExpr, e_sBk, e_sCt, e_sSet, e_slF, e_sAsg, e_sPut, e_iSeq, e_iRange1, e_iRange2, e_iEnum, e_tstYes, e_gN0, e_gT, e_gsNil, e_gsCons, e_eqI, fzR, Rv.get, getA, allFz, appO, Out.rv, List.getElem?_cons_zero, List.getElem?_cons_succ, List.set_cons_zero, List.set_cons_succ, Nat.reduceAdd, List.length_cons, List.length_nil, if_true, if_false, one, decide_true, decide_false, Bool.xor_false, Bool.false_xor, Bool.true_xor, Bool.not_true, Bool.not_false, oTup, oLst, splitL, List.cons_append, List.nil_append, e_gN, and_self, o_addI, o_subI, o_mulI, o_modI, o_neg, o_ltI, o_leI, o_gtI, o_geI, o_isN, o_nN, o_nB, o_nI, o_nS, o_nT, o_nL, o_nD, o_isB, o_itL, o_itT, o_listL, o_listT, o_tupL, o_tupT, o_lenL, o_lenT, o_lenS, o_abs, o_toInt, o_app, o_ixTn, o_ixLn, o_ixDct, o_inDct, o_setLn, o_setDct, o_sumL, o_sumT, o_ln0, o_ln1, o_ln2, o_ln3, o_ln4, o_ln5, o_ln6, o_ln7, o_ln8, o_ln9, o_ln10, o_ln11, o_ixT0, o_ixL0, o_setL0, o_ixT1, o_ixL1, o_setL1, o_ixT2, o_ixL2, o_setL2, o_ixT3, o_ixL3, o_setL3, o_ixT4, o_ixL4, o_setL4, o_ixT5, o_ixL5, o_setL5, o_ixT6, o_ixL6, o_setL6, o_ixT7, o_ixL7, o_setL7, o_ixT8, o_ixL8, o_setL8, o_ixT9, o_ixL9, o_setL9, o_divI, Option.map_some, Option.map_none, List.not_mem_nil, reduceIte, Bool.false_eq_true, List.mem_singleton, Nat.reduceLT, Nat.reduceLeDiff, Int.reduceLT, Int.reduceLE, Nat.reduceEqDiff, Int.reduceNeg, c, s, eq_self]
abbrev anyE : EX := vLc [4] [] (iSeq [] (vC (.str "BKNQR"))) (gN [] 4) (tstYes) cmpE
theorem any_ok {b n q : Nat} {l : List Nat} (h : Fit b n q l) (kd : T3.D) : anyE [.fz kd, .fz (.str (txt l)), .fz (stockD b n q), .non, .non] = .ok (.ow (.list [.bool false, .bool false, .bool false, .bool false, .bool false])) [.fz kd, .fz (.str (txt l)), .fz (stockD b n q), .non, .non] := by
  have c := cmp_ok h kd
  have c0 := c 0 (by decide)
  have c1 := c 1 (by decide)
  have c2 := c 2 (by decide)
  have c3 := c 3 (by decide)
  have c4 := c 4 (by decide)
  clear c
  unfold anyE
  generalize cmpE = ce at *
  have w : ∀ x : Slot, (∀ d, x ≠ .ow d) → (∀ d, x ≠ .rl d) → wipeE [4] [.fz kd, .fz (.str (txt l)), .fz (stockD b n q), .non, x] = some [.fz kd, .fz (.str (txt l)), .fz (stockD b n q), .non, .non] := fun x h1 h2 => by
    cases x with
    | non => rfl
    | fz d => rfl
    | ow d => exact absurd rfl (h1 d)
    | rl d => exact absurd rfl (h2 d)
  have wn : wipeE [4] [.fz kd, .fz (.str (txt l)), .fz (stockD b n q), .non, .non] = some [.fz kd, .fz (.str (txt l)), .fz (stockD b n q), .non, .non] := rfl
  have wf : ∀ d : T3.D, wipeE [4] [.fz kd, .fz (.str (txt l)), .fz (stockD b n q), .non, .fz d] = some [.fz kd, .fz (.str (txt l)), .fz (stockD b n q), .non, .non] := fun d => rfl
  have ll : ∀ k, k < 10 → (k < line) = True := fun k hk => eq_true (lt_line (by omega))
  refine (lc_ok (ds := [.str (sg 0), .str (sg 1), .str (sg 2), .str (sg 3), .str (sg 4)]) (by simp only [e_vName, e_vC, e_rd, e_fz, e_op1, e_op2, e_aNil, e_aCons, e_aLast, e_opN, e_dsp, e_opC, e_vOr, e_vAnd, e_vNot, e_vIf, e_tst, e_tru, e_tAnd, e_tOr, e_tNot, e_opMt, e_ptNone, e_ptSome, e_opSl, e_opSt, e_callF, e_callIo, e_mMut, e_vDict0, e_vDict, e_dCons, e_dNil, e_sNil, e_sSeq, e_sIf, e_sRet, e_sRetN, e_sExpr, e_sBk, e_sCt, e_sSet, e_slF, e_sAsg, e_sPut, e_iSeq, e_iRange1, e_iRange2, e_iEnum, e_tstYes, e_gN0, e_gT, e_gsNil, e_gsCons, e_eqI, fzR, Rv.get, getA, allFz, appO, Out.rv, List.getElem?_cons_zero, List.getElem?_cons_succ, List.set_cons_zero, List.set_cons_succ, Nat.reduceAdd, List.length_cons, List.length_nil, if_true, if_false, one, decide_true, decide_false, Bool.xor_false, Bool.false_xor, Bool.true_xor, Bool.not_true, Bool.not_false, oTup, oLst, splitL, List.cons_append, List.nil_append, e_gN, and_self, o_addI, o_subI, o_mulI, o_modI, o_neg, o_ltI, o_leI, o_gtI, o_geI, o_isN, o_nN, o_nB, o_nI, o_nS, o_nT, o_nL, o_nD, o_isB, o_itL, o_itT, o_listL, o_listT, o_tupL, o_tupT, o_lenL, o_lenT, o_lenS, o_abs, o_toInt, o_app, o_ixTn, o_ixLn, o_ixDct, o_inDct, o_setLn, o_setDct, o_sumL, o_sumT, o_ln0, o_ln1, o_ln2, o_ln3, o_ln4, o_ln5, o_ln6, o_ln7, o_ln8, o_ln9, o_ln10, o_ln11, o_ixT0, o_ixL0, o_setL0, o_ixT1, o_ixL1, o_setL1, o_ixT2, o_ixL2, o_setL2, o_ixT3, o_ixL3, o_setL3, o_ixT4, o_ixL4, o_setL4, o_ixT5, o_ixL5, o_setL5, o_ixT6, o_ixL6, o_setL6, o_ixT7, o_ixL7, o_setL7, o_ixT8, o_ixL8, o_setL8, o_ixT9, o_ixL9, o_setL9, o_divI, Option.map_some, Option.map_none, List.not_mem_nil, reduceIte, Bool.false_eq_true, List.mem_singleton, Nat.reduceLT, Nat.reduceLeDiff, Int.reduceLT, Int.reduceLE, Nat.reduceEqDiff, Int.reduceNeg, items5]) wn (e2 := [.fz kd, .fz (.str (txt l)), .fz (stockD b n q), .non, .non]) (acc := [.bool false, .bool false, .bool false, .bool false, .bool false]) ?_).trans rfl
  simp only [e_vName, e_vC, e_rd, e_fz, e_op1, e_op2, e_aNil, e_aCons, e_aLast, e_opN, e_dsp, e_opC, e_vOr, e_vAnd, e_vNot, e_vIf, e_tst, e_tru, e_tAnd, e_tOr, e_tNot, e_opMt, e_ptNone, e_ptSome, e_opSl, e_opSt, e_callF, e_callIo, e_mMut, e_vDict0, e_vDict, e_dCons, e_dNil, e_sNil, e_sSeq, e_sIf, e_sRet, e_sRetN, e_sExpr, e_sBk, e_sCt, e_sSet, e_slF, e_sAsg, e_sPut, e_iSeq, e_iRange1, e_iRange2, e_iEnum, e_tstYes, e_gN0, e_gT, e_gsNil, e_gsCons, e_eqI, fzR, Rv.get, getA, allFz, appO, Out.rv, List.getElem?_cons_zero, List.getElem?_cons_succ, List.set_cons_zero, List.set_cons_succ, Nat.reduceAdd, List.length_cons, List.length_nil, if_true, if_false, one, decide_true, decide_false, Bool.xor_false, Bool.false_xor, Bool.true_xor, Bool.not_true, Bool.not_false, oTup, oLst, splitL, List.cons_append, List.nil_append, e_gN, and_self, o_addI, o_subI, o_mulI, o_modI, o_neg, o_ltI, o_leI, o_gtI, o_geI, o_isN, o_nN, o_nB, o_nI, o_nS, o_nT, o_nL, o_nD, o_isB, o_itL, o_itT, o_listL, o_listT, o_tupL, o_tupT, o_lenL, o_lenT, o_lenS, o_abs, o_toInt, o_app, o_ixTn, o_ixLn, o_ixDct, o_inDct, o_setLn, o_setDct, o_sumL, o_sumT, o_ln0, o_ln1, o_ln2, o_ln3, o_ln4, o_ln5, o_ln6, o_ln7, o_ln8, o_ln9, o_ln10, o_ln11, o_ixT0, o_ixL0, o_setL0, o_ixT1, o_ixL1, o_setL1, o_ixT2, o_ixL2, o_setL2, o_ixT3, o_ixL3, o_setL3, o_ixT4, o_ixL4, o_setL4, o_ixT5, o_ixL5, o_setL5, o_ixT6, o_ixL6, o_setL6, o_ixT7, o_ixL7, o_setL7, o_ixT8, o_ixL8, o_setL8, o_ixT9, o_ixL9, o_setL9, o_divI, Option.map_some, Option.map_none, List.not_mem_nil, reduceIte, Bool.false_eq_true, List.mem_singleton, Nat.reduceLT, Nat.reduceLeDiff, Int.reduceLT, Int.reduceLE, Nat.reduceEqDiff, Int.reduceNeg, e_lclC, e_lclN, wf, c0, c1, c2, c3, c4, ll 0 (by decide), ll 1 (by decide), ll 2 (by decide), ll 3 (by decide), ll 4 (by decide)]
end K77
end

section
set_option autoImplicit false
namespace T3
open PySem PySem.Spec PyProof.Rows L2
section
variable {α β : Type} (f : α → β)
mutual
theorem evs_map : ∀ l : List α, evs (l.map f) = (evs l).map f
  | [] => rfl
  | a :: l => by
    rw [List.map_cons]
    unfold evs
    rw [List.map_cons, ods_map l]
theorem ods_map : ∀ l : List α, ods (l.map f) = (ods l).map f
  | [] => rfl
  | a :: l => by
    rw [List.map_cons]
    unfold ods
    exact evs_map l
end
mutual
theorem evs_mem {x : α} : ∀ {l : List α}, x ∈ evs l → x ∈ l
  | [], h => h
  | a :: l, h => by
    unfold evs at h
    rcases List.mem_cons.mp h with rfl | h
    · exact List.mem_cons_self
    · exact List.mem_cons_of_mem _ (ods_mem h)
theorem ods_mem {x : α} : ∀ {l : List α}, x ∈ ods l → x ∈ l
  | [], h => h
  | a :: l, h => by
    unfold ods at h
    exact List.mem_cons_of_mem _ (evs_mem h)
end
end
end T3
namespace K77
open PySem PySem.Spec PyProof.Rows L2 T3
theorem pSl_take {l : List Nat} (hl : l.length < 1000) {k : Nat} (hk : k ≤ l.length) : pSl (.str (txt l)) none (some (k : Int)) = some (.fz (.str (txt (l.take k)))) := by
  unfold pSl
  dsimp only
  rw [if_pos (by rw [txt_len]; exact le_line' (by omega))]
  congr 3
  unfold cutS
  rw [HT.sIx_nat, txt_cps, txt_len, Nat.min_eq_left hk]
  unfold txt
  show (⟨(((l.map cd).drop 0).take (k - 0)).toArray⟩ : Str) = _
  rw [List.drop_zero, Nat.sub_zero, List.map_take]
theorem pSl_drop {l : List Nat} (hl : l.length < 1000) {k : Nat} (hk : k ≤ l.length) : pSl (.str (txt l)) (some (k : Int)) none = some (.fz (.str (txt (l.drop k)))) := by
  unfold pSl
  dsimp only
  rw [if_pos (by rw [txt_len]; exact le_line' (by omega))]
  congr 3
  unfold cutS
  rw [HT.sIx_nat, txt_cps, txt_len, Nat.min_eq_left hk]
  unfold txt
  show (⟨(((l.map cd).drop k).take (l.length - k)).toArray⟩ : Str) = _
  rw [List.map_drop, List.take_of_length_le (by simp)]
theorem step_e {l : List Nat} (hl : l.length < 1000) : pStep (.str (txt l)) none none 2 = some (.fz (.str (txt (evs l)))) := by
  unfold pStep
  dsimp only
  rw [if_pos ⟨by rw [txt_len]; exact le_line' (by omega), by decide, by decide⟩, stepS_2, txt_cps, evs_map]
  rfl
theorem step_o {l : List Nat} (hl : l.length < 1000) : pStep (.str (txt l)) (some 1) none 2 = some (.fz (.str (txt (ods l)))) := by
  unfold pStep
  dsimp only
  rw [if_pos ⟨by rw [txt_len]; exact le_line' (by omega), by decide, by decide⟩, stepS_12, txt_cps, ods_map]
  rfl
theorem step_r {l : List Nat} (hl : l.length < 1000) : pStep (.str (txt l)) none none (-1) = some (.fz (.str (txt l.reverse))) := by
  unfold pStep
  dsimp only
  rw [if_pos ⟨by rw [txt_len]; exact le_line' (by omega), by decide, by decide⟩, stepS_r, txt_cps]
  congr 3
  unfold txt
  rw [List.map_reverse]
theorem fits_body {fc fk : List T3.D → FR} {ax : EX} {kd sd : T3.D} {l : List Nat} {w k : Nat} {ev od : Nat} (c : fc [kd] = .ok .none none) (st : fk [kd] = .ok sd none) (hs : pSum [kd] = some (.fz (.int (w : Int)))) (hl : l.length = w + 3) (hl2 : l.length < 1000)
    (ha : ax [.fz kd, .fz (.str (txt l)), .fz sd, .non, .non] = .ok (.ow (.list [.bool false, .bool false, .bool false, .bool false, .bool false])) [.fz kd, .fz (.str (txt l)), .fz sd, .non, .non])
    (hi : pSIndex (.str (txt l)) [.str "K"] = some (.fz (.int (k : Int)))) (hk : k ≤ l.length) (h1 : pInA true (.str "R") (.str (txt (l.take k))) = some (.fz (.bool false))) (h2 : pInA true (.str "R") (.str (txt (l.drop k))) = some (.fz (.bool false)))
    (h3 : pSCount (.str (txt (evs l))) [.str "B"] = some (.fz (.int (ev : Int)))) (h4 : pSCount (.str (txt (ods l))) [.str "B"] = some (.fz (.int (od : Int)))) (hb : (if (ev : Int) - (od : Int) < 0 then -((ev : Int) - (od : Int)) else (ev : Int) - (od : Int)) ≤ 1) :
    sSeq (sExpr (callF false fc (aCons (fz [] (vName 0)) (aNil))))
    (sSeq (sSet [] 2 (callF false fk (aCons (fz [] (vName 0)) (aNil))))
    (sSeq (sIf (tOr (tst (op2 (pEq true) (opN (one pLen) (aLast (vName 1))) (op2 pAdd (opN pSum (aLast (vName 0))) (vC (.int 3))))) (tru (opN pAny (aLast ax)))) (sRet (vC (.bool false))) (sNil))
    (sSeq (sSet [] 3 (opMt pSIndex (vName 1) (aLast (vC (.str "K")))))
    (sSeq (sIf (tOr (tst (op2 (pInA true) (vC (.str "R")) (opSl (vName 1) (ptNone) (ptSome (vName 3))))) (tst (op2 (pInA true) (vC (.str "R")) (opSl (vName 1) (ptSome (vName 3)) (ptNone))))) (sRet (vC (.bool false))) (sNil))
    (sRet (op2 pLe (opN (one pAbs) (aLast (op2 pSub (opMt pSCount (opSt (vName 1) (ptNone) (ptNone) (ptSome (vC (.int 2)))) (aLast (vC (.str "B")))) (opMt pSCount (opSt (vName 1) (ptSome (vC (.int 1))) (ptNone) (ptSome (vC (.int 2)))) (aLast (vC (.str "B"))))))) (vC (.int 1)))))))) [.fz kd, .fz (.str (txt l)), .non, .non, .non] = .rt (.fz (.bool true)) [.fz kd, .fz (.str (txt l)), .fz sd, .fz (.int (k : Int)), .non] := by
  have t1 := pSl_take hl2 hk
  have t2 := pSl_drop hl2 hk
  have t3 := step_e hl2
  have t4 := step_o hl2
  have ln : pLen (.str (txt l)) = some (.fz (.int (w + 3 : Int))) := by
    have e : pLen (.str (txt l)) = if (txt l).length ≤ line then some (.fz (.int (txt l).length)) else none := rfl
    rw [e, txt_len, if_pos (le_line' (by omega)), hl]
    rfl
  have an : pAny [.list [.bool false, .bool false, .bool false, .bool false, .bool false]] = some (.fz (.bool false)) := rfl
  simp only [e_vName, e_vC, e_rd, e_fz, e_op1, e_op2, e_aNil, e_aCons, e_aLast, e_opN, e_dsp, e_opC, e_vOr, e_vAnd, e_vNot, e_vIf, e_tst, e_tru, e_tAnd, e_tOr, e_tNot, e_opMt, e_ptNone, e_ptSome, e_opSl, e_opSt, e_callF, e_callIo, e_mMut, e_vDict0, e_vDict, e_dCons, e_dNil, e_sNil, e_sSeq, e_sIf, e_sRet, e_sRetN, e_sExpr, e_sBk, e_sCt, e_sSet, e_slF, e_sAsg, e_sPut, e_iSeq, e_iRange1, e_iRange2, e_iEnum, e_tstYes, e_gN0, e_gT, e_gsNil, e_gsCons, e_eqI, fzR, Rv.get, getA, allFz, appO, Out.rv, List.getElem?_cons_zero, List.getElem?_cons_succ, List.set_cons_zero, List.set_cons_succ, Nat.reduceAdd, List.length_cons, List.length_nil, if_true, if_false, one, decide_true, decide_false, Bool.xor_false, Bool.false_xor, Bool.true_xor, Bool.not_true, Bool.not_false, oTup, oLst, splitL, List.cons_append, List.nil_append, e_gN, and_self, o_addI, o_subI, o_mulI, o_modI, o_neg, o_ltI, o_leI, o_gtI, o_geI, o_isN, o_nN, o_nB, o_nI, o_nS, o_nT, o_nL, o_nD, o_isB, o_itL, o_itT, o_listL, o_listT, o_tupL, o_tupT, o_lenL, o_lenT, o_lenS, o_abs, o_toInt, o_app, o_ixTn, o_ixLn, o_ixDct, o_inDct, o_setLn, o_setDct, o_sumL, o_sumT, o_ln0, o_ln1, o_ln2, o_ln3, o_ln4, o_ln5, o_ln6, o_ln7, o_ln8, o_ln9, o_ln10, o_ln11, o_ixT0, o_ixL0, o_setL0, o_ixT1, o_ixL1, o_setL1, o_ixT2, o_ixL2, o_setL2, o_ixT3, o_ixL3, o_setL3, o_ixT4, o_ixL4, o_setL4, o_ixT5, o_ixL5, o_setL5, o_ixT6, o_ixL6, o_setL6, o_ixT7, o_ixL7, o_setL7, o_ixT8, o_ixL8, o_setL8, o_ixT9, o_ixL9, o_setL9, o_divI, Option.map_some, Option.map_none, List.not_mem_nil, reduceIte, Bool.false_eq_true, List.mem_singleton, Nat.reduceLT, Nat.reduceLeDiff, Int.reduceLT, Int.reduceLE, Nat.reduceEqDiff, Int.reduceNeg, c, st, hs, ha, hi, h1, h2, h3, h4, hb, t1, t2, t3, t4, ln, an, o_truB, eq_self]
theorem fits_eq : B_fits = sSeq (sExpr (callF false F_check_kind (aCons (fz [] (vName 0)) (aNil))))
    (sSeq (sSet [] 2 (callF false F_stock_of (aCons (fz [] (vName 0)) (aNil))))
    (sSeq (sIf (tOr (tst (op2 (pEq true) (opN (one pLen) (aLast (vName 1))) (op2 pAdd (opN pSum (aLast (vName 0))) (vC (.int 3))))) (tru (opN pAny (aLast anyE)))) (sRet (vC (.bool false))) (sNil))
    (sSeq (sSet [] 3 (opMt pSIndex (vName 1) (aLast (vC (.str "K")))))
    (sSeq (sIf (tOr (tst (op2 (pInA true) (vC (.str "R")) (opSl (vName 1) (ptNone) (ptSome (vName 3))))) (tst (op2 (pInA true) (vC (.str "R")) (opSl (vName 1) (ptSome (vName 3)) (ptNone))))) (sRet (vC (.bool false))) (sNil))
    (sRet (op2 pLe (opN (one pAbs) (aLast (op2 pSub (opMt pSCount (opSt (vName 1) (ptNone) (ptNone) (ptSome (vC (.int 2)))) (aLast (vC (.str "B")))) (opMt pSCount (opSt (vName 1) (ptSome (vC (.int 1))) (ptNone) (ptSome (vC (.int 2)))) (aLast (vC (.str "B"))))))) (vC (.int 1)))))))) := rfl
theorem sgs_sub {l m : List Nat} (h : Sgs l) (s : ∀ i ∈ m, i ∈ l) : Sgs m := fun i hi => h i (s i hi)
theorem fits_ok {b n q : Nat} {l : List Nat} (hk : b + n + q ≤ 7) (h : Fit b n q l) : F_fits [kD b n q, .str (txt l)] = .ok (.bool true) none := by
  have m1 : (1 : Nat) ∈ l := List.count_pos_iff.mp (by rw [h.c1]; exact Nat.one_pos)
  obtain ⟨k, hi, hk1⟩ := index_txt h.sg (i := 1) (by decide) m1
  obtain ⟨o1, o2⟩ := h.ord k hk1
  have kl : k ≤ l.length := by
    have := (List.getElem?_eq_some_iff.mp hk1).1
    omega
  have h1 := in_txt true (sgs_sub h.sg fun i hi => List.mem_of_mem_take hi : Sgs (l.take k)) (i := 4) (by decide)
  have h2 := in_txt true (sgs_sub h.sg fun i hi => List.mem_of_mem_drop hi : Sgs (l.drop k)) (i := 4) (by decide)
  rw [decide_eq_true o1] at h1
  rw [decide_eq_true o2] at h2
  have h3 := count_txt (sgs_sub h.sg fun i hi => evs_mem hi : Sgs (evs l)) (i := 0) (by decide)
  have h4 := count_txt (sgs_sub h.sg fun i hi => ods_mem hi : Sgs (ods l)) (i := 0) (by decide)
  have hb := h.bal
  have t := fits_body (check_ok hk) (stock_ok b n q) (sum_kD b n q) h.len (by have := h.len; omega) (any_ok h (kD b n q)) hi kl h1 h2 h3 h4 (by split <;> omega)
  unfold F_fits mkFn
  rw [if_pos ⟨rfl, fun h => by cases h⟩, fits_eq]
  exact congrArg (T3.finish false false 1) t
end K77
end

section
set_option autoImplicit false
namespace K77
open PySem PySem.Spec PyProof.Rows L2 T3
theorem acc_sgs : ∀ {l : List Nat} {L : Nat} {s : St} {ev : Bool}, acc L s ev l → Sgs l
  | [], _, _, _, _ => fun i hi => by cases hi
  | i :: l, 0, _, _, h => h.elim
  | i :: l, L + 1, s, ev, h => by
    obtain ⟨hi, s', _, ha⟩ := h
    intro j hj
    rcases List.mem_cons.mp hj with rfl | hj
    · exact hi
    · exact acc_sgs ha j hj
theorem acc_len : ∀ {l : List Nat} {L : Nat} {s : St} {ev : Bool}, acc L s ev l → l.length = L
  | [], 0, _, _, _ => rfl
  | [], _ + 1, _, _, h => h.elim
  | i :: l, 0, _, _, h => h.elim
  | i :: l, L + 1, s, ev, h => by
    obtain ⟨hi, s', _, ha⟩ := h
    rw [List.length_cons, acc_len ha]
theorem num_body {ft ff : List T3.D → FR} {lp : SX} {kd rw sd : T3.D} {e : En} {r : T3.D} (h1 : ft [kd, rw] = .ok (.bool true) none) (h2 : ff [kd] = .ok sd none)
    (h3 : lp [.fz kd, .fz rw, .ow (.dict []), .fz sd, .fz (.int 0), .non, .non, .non, .non] = .nx e) (he : e[4]? = some (.fz r)) :
    sSeq (sIf (tNot (tru (callF false ft (aCons (fz [] (vName 0)) (aCons (fz [] (vName 1)) (aNil)))))) (sBad) (sNil))
    (sSeq (sSet [] 2 (vDict0))
    (sSeq (sSet [] 3 (callF false ff (aCons (fz [] (vName 0)) (aNil))))
    (sSeq (sSet [] 4 (vC (.int 0)))
    (sSeq lp (sRet (vName 4)))))) [.fz kd, .fz rw, .non, .non, .non, .non, .non, .non, .non] = .rt (.fz r) e := by
  simp only [e_vName, e_vC, e_rd, e_fz, e_op1, e_op2, e_aNil, e_aCons, e_aLast, e_opN, e_dsp, e_opC, e_vOr, e_vAnd, e_vNot, e_vIf, e_tst, e_tru, e_tAnd, e_tOr, e_tNot, e_opMt, e_ptNone, e_ptSome, e_opSl, e_opSt, e_callF, e_callIo, e_mMut, e_vDict0, e_vDict, e_dCons, e_dNil, e_sNil, e_sSeq, e_sIf, e_sRet, e_sRetN, e_sExpr, e_sBk, e_sCt, e_sSet, e_slF, e_sAsg, e_sPut, e_iSeq, e_iRange1, e_iRange2, e_iEnum, e_tstYes, e_gN0, e_gT, e_gsNil, e_gsCons, e_eqI, fzR, Rv.get, getA, allFz, appO, Out.rv, List.getElem?_cons_zero, List.getElem?_cons_succ, List.set_cons_zero, List.set_cons_succ, Nat.reduceAdd, List.length_cons, List.length_nil, if_true, if_false, one, decide_true, decide_false, Bool.xor_false, Bool.false_xor, Bool.true_xor, Bool.not_true, Bool.not_false, oTup, oLst, splitL, List.cons_append, List.nil_append, e_gN, and_self, o_addI, o_subI, o_mulI, o_modI, o_neg, o_ltI, o_leI, o_gtI, o_geI, o_isN, o_nN, o_nB, o_nI, o_nS, o_nT, o_nL, o_nD, o_isB, o_itL, o_itT, o_listL, o_listT, o_tupL, o_tupT, o_lenL, o_lenT, o_lenS, o_abs, o_toInt, o_app, o_ixTn, o_ixLn, o_ixDct, o_inDct, o_setLn, o_setDct, o_sumL, o_sumT, o_ln0, o_ln1, o_ln2, o_ln3, o_ln4, o_ln5, o_ln6, o_ln7, o_ln8, o_ln9, o_ln10, o_ln11, o_ixT0, o_ixL0, o_setL0, o_ixT1, o_ixL1, o_setL1, o_ixT2, o_ixL2, o_setL2, o_ixT3, o_ixL3, o_setL3, o_ixT4, o_ixL4, o_setL4, o_ixT5, o_ixL5, o_setL5, o_ixT6, o_ixL6, o_setL6, o_ixT7, o_ixL7, o_setL7, o_ixT8, o_ixL8, o_setL8, o_ixT9, o_ixL9, o_setL9, o_divI, Option.map_some, Option.map_none, List.not_mem_nil, reduceIte, Bool.false_eq_true, List.mem_singleton, Nat.reduceLT, Nat.reduceLeDiff, Int.reduceLT, Int.reduceLE, Nat.reduceEqDiff, Int.reduceNeg, h1, h2, h3, he, o_truB]
abbrev lpK : SX := sFor (iEnum [] (vName 1)) (gT 2 (gsCons (gN [] 5) (gsCons (gN [] 6) gsNil))) (bodyK F_step lpJ)
theorem num_eq : B_number_of = sSeq (sIf (tNot (tru (callF false F_fits (aCons (fz [] (vName 0)) (aCons (fz [] (vName 1)) (aNil)))))) (sBad) (sNil))
    (sSeq (sSet [] 2 (vDict0))
    (sSeq (sSet [] 3 (callF false F_first_state (aCons (fz [] (vName 0)) (aNil))))
    (sSeq (sSet [] 4 (vC (.int 0)))
    (sSeq lpK (sRet (vName 4)))))) := rfl
theorem iEnum_ok {kd : T3.D} {l : List Nat} (h : Sgs l) (a b c d e f g : Slot) : iEnum [] (vName 1) [.fz kd, .fz (.str (txt l)), a, b, c, d, e, f, g] = .ok (num 0 (l.map fun i => .str (sg i))) [.fz kd, .fz (.str (txt l)), a, b, c, d, e, f, g] := by
  rw [← signs_txt h]
  simp only [e_vName, e_vC, e_rd, e_fz, e_op1, e_op2, e_aNil, e_aCons, e_aLast, e_opN, e_dsp, e_opC, e_vOr, e_vAnd, e_vNot, e_vIf, e_tst, e_tru, e_tAnd, e_tOr, e_tNot, e_opMt, e_ptNone, e_ptSome, e_opSl, e_opSt, e_callF, e_callIo, e_mMut, e_vDict0, e_vDict, e_dCons, e_dNil, e_sNil, e_sSeq, e_sIf, e_sRet, e_sRetN, e_sExpr, e_sBk, e_sCt, e_sSet, e_slF, e_sAsg, e_sPut, e_iSeq, e_iRange1, e_iRange2, e_iEnum, e_tstYes, e_gN0, e_gT, e_gsNil, e_gsCons, e_eqI, fzR, Rv.get, getA, allFz, appO, Out.rv, List.getElem?_cons_zero, List.getElem?_cons_succ, List.set_cons_zero, List.set_cons_succ, Nat.reduceAdd, List.length_cons, List.length_nil, if_true, if_false, one, decide_true, decide_false, Bool.xor_false, Bool.false_xor, Bool.true_xor, Bool.not_true, Bool.not_false, oTup, oLst, splitL, List.cons_append, List.nil_append, e_gN, and_self, o_addI, o_subI, o_mulI, o_modI, o_neg, o_ltI, o_leI, o_gtI, o_geI, o_isN, o_nN, o_nB, o_nI, o_nS, o_nT, o_nL, o_nD, o_isB, o_itL, o_itT, o_listL, o_listT, o_tupL, o_tupT, o_lenL, o_lenT, o_lenS, o_abs, o_toInt, o_app, o_ixTn, o_ixLn, o_ixDct, o_inDct, o_setLn, o_setDct, o_sumL, o_sumT, o_ln0, o_ln1, o_ln2, o_ln3, o_ln4, o_ln5, o_ln6, o_ln7, o_ln8, o_ln9, o_ln10, o_ln11, o_ixT0, o_ixL0, o_setL0, o_ixT1, o_ixL1, o_setL1, o_ixT2, o_ixL2, o_setL2, o_ixT3, o_ixL3, o_setL3, o_ixT4, o_ixL4, o_setL4, o_ixT5, o_ixL5, o_setL5, o_ixT6, o_ixL6, o_setL6, o_ixT7, o_ixL7, o_setL7, o_ixT8, o_ixL8, o_setL8, o_ixT9, o_ixL9, o_setL9, o_divI, Option.map_some, Option.map_none, List.not_mem_nil, reduceIte, Bool.false_eq_true, List.mem_singleton, Nat.reduceLT, Nat.reduceLeDiff, Int.reduceLT, Int.reduceLE, Nat.reduceEqDiff, Int.reduceNeg]
theorem number_ok {b n q : Nat} {l : List Nat} (hk : b + n + q ≤ 7) (h : Fit b n q l) (ha : acc (b + n + q + 3) (fs b n q) true l) : F_number_of [kD b n q, .str (txt l)] = .ok (.int (rank (b + n + q + 3) (fs b n q) true l : Nat)) none := by
  have ht := tot_fs b n q
  have hR := room10 (b + n + q + 3) (by omega)
  obtain ⟨k2, s2, a2, b2, x2, y2, e⟩ := outerK (kd := kD b n q) (rw := .str (txt l)) l (b + n + q + 3) (fs b n q) 0 0 [] .non .non .non .non ht (by omega) ha (fun q hq => by cases hq) (by simp; omega)
  rw [Nat.zero_add] at e
  have e2 : lpK (En9 (kD b n q) (.str (txt l)) [] (fs b n q) 0 .non .non .non .non) = _ := for_ok (iEnum_ok (acc_sgs ha) _ _ _ _ _ _ _) e
  have t := num_body (fits_ok hk h) (first_ok b n q) e2 rfl
  unfold F_number_of mkFn
  rw [if_pos ⟨rfl, fun h => by cases h⟩, num_eq]
  exact congrArg (T3.finish false false 1) t
end K77
end

section
set_option autoImplicit false
/-! the plain law: rows and numbers, there and back, in order -/
namespace K77
open PySem T3
theorem pk_of {L : Nat} {s s' : St} {ev : Bool} {i m : Nat} (hs : stp s ev i = some s') (hm : m < ways L s' (!ev)) (post : List Nat) : ∀ pre : List Nat, pk L s ev (pre ++ i :: post) ((pre.map (wi L s ev)).sum + m) = some (i, s', m)
  | [] => by
    show pk L s ev (i :: post) (0 + m) = _
    rw [Nat.zero_add]
    unfold pk
    rw [hs]
    dsimp only
    rw [if_pos hm]
  | j :: pre => by
    rw [List.map_cons, List.sum_cons, List.cons_append]
    unfold pk
    cases e : stp s ev j with
    | none =>
      have hw : wi L s ev j = 0 := by unfold wi; rw [e]
      rw [hw, Nat.zero_add]
      exact pk_of hs hm post pre
    | some t =>
      have hw : wi L s ev j = ways L t (!ev) := by unfold wi; rw [e]
      dsimp only
      rw [hw, if_neg (by omega), show ways L t (!ev) + (pre.map (wi L s ev)).sum + m - ways L t (!ev) = (pre.map (wi L s ev)).sum + m from by omega]
      exact pk_of hs hm post pre
theorem pk_is {L : Nat} {s : St} {ev : Bool} : ∀ {is : List Nat} {m i : Nat} {s' : St} {m' : Nat}, pk L s ev is m = some (i, s', m') → ∃ pre post, is = pre ++ i :: post ∧ m = (pre.map (wi L s ev)).sum + m' ∧ stp s ev i = some s' ∧ m' < ways L s' (!ev)
  | [], m, i, s', m', h => by cases h
  | j :: is, m, i, s', m', h => by
    unfold pk at h
    cases e : stp s ev j with
    | none =>
      rw [e] at h
      have hw : wi L s ev j = 0 := by unfold wi; rw [e]
      obtain ⟨pre, post, h1, h2, h3⟩ := pk_is h
      exact ⟨j :: pre, post, by rw [h1]; rfl, by rw [List.map_cons, List.sum_cons, hw, Nat.zero_add]; exact h2, h3⟩
    | some t =>
      rw [e] at h
      have hw : wi L s ev j = ways L t (!ev) := by unfold wi; rw [e]
      dsimp only at h
      by_cases c : m < ways L t (!ev)
      · rw [if_pos c] at h
        cases h
        exact ⟨[], is, rfl, by simp, e, c⟩
      · rw [if_neg c] at h
        obtain ⟨pre, post, h1, h2, h3⟩ := pk_is h
        refine ⟨j :: pre, post, by rw [h1]; rfl, ?_, h3⟩
        rw [List.map_cons, List.sum_cons, hw]
        omega
theorem range_split {n i : Nat} {pre post : List Nat} (h : List.range n = pre ++ i :: post) : pre = List.range i := by
  have hl : pre.length = i := by
    have e : (List.range n)[pre.length]? = some i := by rw [h, List.getElem?_append_right (Nat.le_refl _), Nat.sub_self]; rfl
    obtain ⟨h1, h2⟩ := List.getElem?_eq_some_iff.mp e
    rwa [List.getElem_range] at h2
  have e : pre = (List.range n).take pre.length := by rw [h, List.take_left' rfl]
  have hn : i ≤ n := by
    have := congrArg List.length h
    rw [List.length_range, List.length_append, List.length_cons] at this
    omega
  rw [hl, List.take_range, Nat.min_eq_left hn] at e
  exact e
theorem r5 : ([0, 1, 2, 3, 4] : List Nat) = List.range 5 := rfl
theorem split5 {i : Nat} (hi : i < 5) : ∃ post, List.range 5 = List.range i ++ i :: post := by
  rcases i with _ | _ | _ | _ | _ | i
  · exact ⟨[1, 2, 3, 4], rfl⟩
  · exact ⟨[2, 3, 4], rfl⟩
  · exact ⟨[3, 4], rfl⟩
  · exact ⟨[4], rfl⟩
  · exact ⟨[], rfl⟩
  · omega
theorem rowOf_succ (L : Nat) (s : St) (ev : Bool) (m : Nat) : rowOf (L + 1) s ev m = match pk L s ev (List.range 5) m with
    | none => []
    | some (i, s', m') => i :: rowOf L s' (!ev) m' := rfl
theorem rank_cons {L : Nat} {s s' : St} {ev : Bool} {i : Nat} {l : List Nat} (h : stp s ev i = some s') : rank (L + 1) s ev (i :: l) = ((List.range i).map (wi L s ev)).sum + rank L s' (!ev) l := by
  show _ + (match stp s ev i with
    | none => 0
    | some s' => rank L s' (!ev) l) = _
  rw [h]
/-- a number's row fits, and its number is that number -/
theorem row_there : ∀ (L : Nat) (s : St) (ev : Bool) (m : Nat), m < ways L s ev → acc L s ev (rowOf L s ev m) ∧ rank L s ev (rowOf L s ev m) = m
  | 0, s, ev, m, h => by
    unfold ways at h
    split at h
    · rename_i c
      have : m = 0 := by omega
      subst this
      exact ⟨c, rfl⟩
    · omega
  | L + 1, s, ev, m, h => by
    rw [ways_sum] at h
    obtain ⟨i, s', m', h1, h2, h3, h4⟩ := pk_some h
    have hi : i < 5 := by
      simp only [List.mem_cons, List.not_mem_nil, or_false] at h2
      omega
    rw [r5] at h1
    obtain ⟨pre, post, e1, e2, _, _⟩ := pk_is h1
    have ep := range_split e1
    subst ep
    obtain ⟨i1, i2⟩ := row_there L s' (!ev) m' h4
    rw [rowOf_succ, h1]
    dsimp only
    refine ⟨⟨hi, s', h3, i1⟩, ?_⟩
    rw [rank_cons h3, i2, e2]
theorem sum_app (a b : List Nat) : (a ++ b).sum = a.sum + b.sum := by
  induction a with
  | nil => simp
  | cons x a ih => rw [List.cons_append, List.sum_cons, List.sum_cons, ih, Nat.add_assoc]
theorem wi_some {L : Nat} {s s' : St} {ev : Bool} {i : Nat} (h : stp s ev i = some s') : wi L s ev i = ways L s' (!ev) := by unfold wi; rw [h]
/-- .. and back -/
theorem row_back : ∀ (l : List Nat) (L : Nat) (s : St) (ev : Bool), acc L s ev l → rank L s ev l < ways L s ev ∧ rowOf L s ev (rank L s ev l) = l
  | [], 0, s, ev, h => by
    refine ⟨?_, rfl⟩
    show 0 < ways 0 s ev
    unfold ways
    rw [if_pos (show s.g ≤ 1 ∧ -1 ≤ s.g from h)]
    exact Nat.one_pos
  | [], _ + 1, _, _, h => h.elim
  | i :: l, 0, _, _, h => h.elim
  | i :: l, L + 1, s, ev, h => by
    obtain ⟨hi, s', hs, ha⟩ := h
    obtain ⟨i1, i2⟩ := row_back l L s' (!ev) ha
    obtain ⟨post, e⟩ := split5 hi
    rw [rank_cons hs]
    constructor
    · rw [ways_sum, r5, e, List.map_append, List.map_cons, sum_app, List.sum_cons, wi_some hs]
      omega
    · rw [rowOf_succ, e, pk_of hs i1 post (List.range i)]
      dsimp only
      rw [i2]
/-- the order of texts -/
theorem rank_lt : ∀ (l m : List Nat) (L : Nat) (s : St) (ev : Bool), acc L s ev l → acc L s ev m → rank L s ev l < rank L s ev m → l < m
  | [], [], 0, s, ev, _, _, h => absurd h (Nat.lt_irrefl _)
  | [], _ :: _, 0, _, _, _, h, _ => h.elim
  | _ :: _, _, 0, _, _, h, _, _ => h.elim
  | [], _, _ + 1, _, _, h, _, _ => h.elim
  | _ :: _, [], _ + 1, _, _, _, h, _ => h.elim
  | i :: l, j :: m, L + 1, s, ev, h1, h2, h => by
    obtain ⟨hi, s1, hs1, ha1⟩ := h1
    obtain ⟨hj, s2, hs2, ha2⟩ := h2
    rw [rank_cons hs1, rank_cons hs2] at h
    have mono : ∀ a b : Nat, a < b → ((List.range a).map (wi L s ev)).sum + wi L s ev a ≤ ((List.range b).map (wi L s ev)).sum := fun a b hab => by
      induction b with
      | zero => omega
      | succ b ih =>
        rw [List.range_succ, List.map_append, sum_app, List.map_cons, List.map_nil, List.sum_cons, List.sum_nil]
        by_cases c : a = b
        · subst c; omega
        · have := ih (by omega)
          omega
    have b1 := (row_back l L s1 (!ev) ha1).1
    have b2 := (row_back m L s2 (!ev) ha2).1
    rw [← wi_some (i := i) (s := s) hs1] at b1
    rw [← wi_some (i := j) (s := s) hs2] at b2
    by_cases c : i = j
    · subst c
      rw [hs1] at hs2
      cases hs2
      exact List.cons_lt_cons_iff.mpr (.inr ⟨rfl, rank_lt l m L s1 (!ev) ha1 ha2 (by omega)⟩)
    · by_cases c2 : i < j
      · exact List.cons_lt_cons_iff.mpr (.inl c2)
      · have := mono j i (by omega)
        omega
end K77
end

section
set_option autoImplicit false
/-! the plain law: how many -/
namespace K77
open PySem T3
def mul : Nat → Nat → Nat → Nat → Nat
  | 0, n, q, m => if n = 0 ∧ q = 0 ∧ m = 0 then 1 else 0
  | L + 1, n, q, m => (if n = 0 then 0 else mul L (n - 1) q m) + (if q = 0 then 0 else mul L n (q - 1) m) + (if m = 0 then 0 else mul L n q (m - 1))
def bw : Nat → Bool → Nat → Int → Nat
  | 0, _, b, g => if b = 0 ∧ g ≤ 1 ∧ -1 ≤ g then 1 else 0
  | L + 1, ev, b, g => bw L (!ev) b g + (if b = 0 then 0 else bw L (!ev) (b - 1) (g + (if ev = true then 1 else -1)))
theorem bw_zero : ∀ (L : Nat) (ev : Bool) (b : Nat) (g : Int), L < b → bw L ev b g = 0
  | 0, ev, b, g, h => by
    unfold bw
    rw [if_neg (by omega)]
  | L + 1, ev, b, g, h => by
    unfold bw
    rw [bw_zero L (!ev) b g (by omega), bw_zero L (!ev) (b - 1) _ (by omega)]
    split <;> rfl
/-- m men of rook, king and rook are left -/
def Sp (s : St) (m : Nat) : Prop := (m = 3 ∧ s.rk = 0 ∧ s.k = 1 ∧ s.r = 2) ∨ (m = 2 ∧ s.rk = 1 ∧ s.k = 1 ∧ s.r = 1) ∨ (m = 1 ∧ s.rk = 1 ∧ s.k = 0 ∧ s.r = 1) ∨ (m = 0 ∧ s.rk = 2 ∧ s.k = 0 ∧ s.r = 0)
theorem Sp.tot {s : St} {m : Nat} (h : Sp s m) : tot s = s.b + s.n + s.q + m := by
  unfold K77.tot
  rcases h with ⟨rfl, _, h1, h2⟩ | ⟨rfl, _, h1, h2⟩ | ⟨rfl, _, h1, h2⟩ | ⟨rfl, _, h1, h2⟩ <;> omega
theorem ways_mul : ∀ (L : Nat) (s : St) (m : Nat) (ev : Bool), Sp s m → tot s = L → ways L s ev = bw L ev s.b s.g * mul (s.n + s.q + m) s.n s.q m
  | 0, s, m, ev, h, hL => by
    have ht := h.tot
    have e : s.n + s.q + m = 0 := by omega
    rw [e]
    unfold ways bw mul
    rw [if_pos (show s.n = 0 ∧ s.q = 0 ∧ m = 0 from by omega), Nat.mul_one]
    by_cases c : s.g ≤ 1 ∧ -1 ≤ s.g
    · rw [if_pos c, if_pos ⟨by omega, c⟩]
    · rw [if_neg c, if_neg fun z => c z.2]
  | L + 1, s, m, ev, h, hL => by
    have ht := h.tot
    rw [ways_succ, Nat.zero_add]
    have wB : wi L s ev 0 = (if s.b = 0 then 0 else bw L (!ev) (s.b - 1) (s.g + (if ev = true then 1 else -1))) * mul (s.n + s.q + m) s.n s.q m := by
      unfold wi
      rw [stp0]
      by_cases c : s.b = 0
      · rw [if_pos c, if_pos c, Nat.zero_mul]
      · rw [if_neg c, if_neg c]
        refine ways_mul L _ m (!ev) h ?_
        have := stp_tot (s := s) (ev := ev) (i := 0) (by rw [stp0, if_neg c])
        omega
    have wN : wi L s ev 2 = bw L (!ev) s.b s.g * (if s.n = 0 then 0 else mul (s.n + s.q + m - 1) (s.n - 1) s.q m) := by
      unfold wi
      rw [stp2]
      by_cases c : s.n = 0
      · rw [if_pos c, if_pos c, Nat.mul_zero]
      · rw [if_neg c, if_neg c]
        have := ways_mul L { s with n := s.n - 1 } m (!ev) h (by have := stp_tot (s := s) (ev := ev) (i := 2) (by rw [stp2, if_neg c]); omega)
        rw [show s.n + s.q + m - 1 = s.n - 1 + s.q + m from by omega]
        exact this
    have wQ : wi L s ev 3 = bw L (!ev) s.b s.g * (if s.q = 0 then 0 else mul (s.n + s.q + m - 1) s.n (s.q - 1) m) := by
      unfold wi
      rw [stp3]
      by_cases c : s.q = 0
      · rw [if_pos c, if_pos c, Nat.mul_zero]
      · rw [if_neg c, if_neg c]
        have := ways_mul L { s with q := s.q - 1 } m (!ev) h (by have := stp_tot (s := s) (ev := ev) (i := 3) (by rw [stp3, if_neg c]); omega)
        rw [show s.n + s.q + m - 1 = s.n + (s.q - 1) + m from by omega]
        exact this
    have wS : wi L s ev 1 + wi L s ev 4 = bw L (!ev) s.b s.g * (if m = 0 then 0 else mul (s.n + s.q + m - 1) s.n s.q (m - 1)) := by
      unfold wi
      rw [stp1, stp4]
      rcases h with ⟨rfl, h0, h1, h2⟩ | ⟨rfl, h0, h1, h2⟩ | ⟨rfl, h0, h1, h2⟩ | ⟨rfl, h0, h1, h2⟩
      · have c4 : ¬ (s.r = 0 ∨ s.rk = 1 ∧ s.k = 1) := by omega
        rw [if_pos (by omega), if_neg c4, if_neg (by decide)]
        dsimp only
        rw [Nat.zero_add]
        exact ways_mul L { s with r := s.r - 1, rk := s.rk + 1 } 2 (!ev) (.inr (.inl ⟨rfl, by simp [h0], h1, by simp [h2]⟩)) (by have := stp_tot (s := s) (ev := ev) (i := 4) (by rw [stp4, if_neg c4]); omega)
      · have c1 : ¬ (s.k = 0 ∨ ¬ s.rk = 1) := by omega
        rw [if_neg c1, if_pos (by omega), if_neg (by decide)]
        dsimp only
        exact ways_mul L { s with k := s.k - 1 } 1 (!ev) (.inr (.inr (.inl ⟨rfl, h0, by simp [h1], h2⟩))) (by have := stp_tot (s := s) (ev := ev) (i := 1) (by rw [stp1, if_neg c1]); omega)
      · have c4 : ¬ (s.r = 0 ∨ s.rk = 1 ∧ s.k = 1) := by omega
        rw [if_pos (by omega), if_neg c4, if_neg (by decide)]
        dsimp only
        rw [Nat.zero_add]
        exact ways_mul L { s with r := s.r - 1, rk := s.rk + 1 } 0 (!ev) (.inr (.inr (.inr ⟨rfl, by simp [h0], h1, by simp [h2]⟩))) (by have := stp_tot (s := s) (ev := ev) (i := 4) (by rw [stp4, if_neg c4]); omega)
      · rw [if_pos (by omega), if_pos (by omega), if_pos rfl, Nat.mul_zero]
        rfl
    have rest : wi L s ev 1 + wi L s ev 2 + wi L s ev 3 + wi L s ev 4 = bw L (!ev) s.b s.g * mul (s.n + s.q + m) s.n s.q m := by
      cases e : s.n + s.q + m with
      | zero =>
        have hb : bw L (!ev) s.b s.g = 0 := bw_zero L (!ev) s.b s.g (by omega)
        rw [hb] at wN wQ wS ⊢
        rw [Nat.zero_mul] at wN wQ wS ⊢
        omega
      | succ t =>
        have em : mul (t + 1) s.n s.q m = (if s.n = 0 then 0 else mul t (s.n - 1) s.q m) + (if s.q = 0 then 0 else mul t s.n (s.q - 1) m) + (if m = 0 then 0 else mul t s.n s.q (m - 1)) := rfl
        rw [e, show t + 1 - 1 = t from rfl] at wN wQ wS
        rw [em, Nat.mul_add, Nat.mul_add]
        omega
    have eb : bw (L + 1) ev s.b s.g = bw L (!ev) s.b s.g + (if s.b = 0 then 0 else bw L (!ev) (s.b - 1) (s.g + (if ev = true then 1 else -1))) := rfl
    rw [eb, Nat.add_mul]
    omega
def cnt (b n q : Nat) : Nat := bw (b + n + q + 3) true b 0 * mul (n + q + 3) n q 3
theorem ways_cnt (b n q : Nat) : ways (b + n + q + 3) (fs b n q) true = cnt b n q :=
  ways_mul (b + n + q + 3) (fs b n q) 3 true (.inl ⟨rfl, rfl, rfl, rfl⟩) (tot_fs b n q)
end K77
end

section
set_option autoImplicit false
namespace K77
open PySem T3
def chk (r : FR) (i : Nat) : Bool := match r with
  | .ok (.int j) none => decide (j = (i : Int))
  | _ => false
theorem chk_ok {r : FR} {i : Nat} (h : chk r i = true) : r = .ok (.int (i : Int)) none := by
  unfold chk at h
  split at h
  · rw [of_decide_eq_true h]
  · cases h
def chkB (b : Nat) : Bool := (List.range 8).all fun n => (List.range 8).all fun q => if b + n + q ≤ 7 then chk (F__law_count [kD b n q]) (cnt b n q) else true
theorem tab0 : chkB 0 = true := by decide +kernel
theorem tab1 : chkB 1 = true := by decide +kernel
theorem tab2 : chkB 2 = true := by decide +kernel
theorem tab3 : chkB 3 = true := by decide +kernel
theorem tab4 : chkB 4 = true := by decide +kernel
theorem tab5 : chkB 5 = true := by decide +kernel
theorem tab6 : chkB 6 = true := by decide +kernel
theorem tab7 : chkB 7 = true := by decide +kernel
theorem law_count_ok {b n q : Nat} (h : b + n + q ≤ 7) : F__law_count [kD b n q] = .ok (.int (cnt b n q : Nat)) none := by
  refine chk_ok ?_
  have key : chkB b = true := by
    rcases b with _ | _ | _ | _ | _ | _ | _ | _ | b
    · exact tab0
    · exact tab1
    · exact tab2
    · exact tab3
    · exact tab4
    · exact tab5
    · exact tab6
    · exact tab7
    · omega
  unfold chkB at key
  have k1 := List.all_eq_true.mp key n (List.mem_range.mpr (by omega))
  have k2 := List.all_eq_true.mp k1 q (List.mem_range.mpr (by omega))
  rw [if_pos h] at k2
  exact k2
theorem cnt_swap {b n q : Nat} (h : b + n + q ≤ 7) : cnt b q n = cnt b n q := by
  have : ∀ b, b < 8 → ∀ n, n < 8 → ∀ q, q < 8 → b + n + q ≤ 7 → cnt b q n = cnt b n q := by decide +kernel
  exact this b (by omega) n (by omega) q (by omega) h
end K77
end

section
set_option autoImplicit false
/-! the plain law: which rows fit -/
namespace K77
open PySem T3
def sgn (ev : Bool) : Int := if ev = true then 1 else -1
def alt : Bool → List Nat → Int
  | _, [] => 0
  | ev, i :: l => (if i = 0 then sgn ev else 0) + alt (!ev) l
def isS (i : Nat) : Bool := i == 1 || i == 4
def spc : Nat → List Nat
  | 0 => []
  | 1 => [4]
  | 2 => [1, 4]
  | _ => [4, 1, 4]
structure Chr (b n q m : Nat) (g : Int) (ev : Bool) (l : List Nat) : Prop where
  sg : Sgs l
  c0 : l.count 0 = b
  c2 : l.count 2 = n
  c3 : l.count 3 = q
  sp : l.filter isS = spc m
  bal : -1 ≤ g + alt ev l ∧ g + alt ev l ≤ 1
theorem sgs_cons {i : Nat} {l : List Nat} : Sgs (i :: l) ↔ i < 5 ∧ Sgs l := by
  unfold Sgs
  simp
theorem spc_nil {m : Nat} (h : spc m = []) : m = 0 := by
  rcases m with _ | _ | _ | m
  · rfl
  · cases h
  · cases h
  · cases h
theorem acc_chr : ∀ (l : List Nat) (L : Nat) (s : St) (m : Nat) (ev : Bool), Sp s m → tot s = L → (acc L s ev l ↔ Chr s.b s.n s.q m s.g ev l)
  | [], 0, s, m, ev, h, hL => by
    have ht := h.tot
    have e : alt ev [] = 0 := rfl
    constructor
    · intro a
      have a : s.g ≤ 1 ∧ -1 ≤ s.g := a
      have hm : m = 0 := by omega
      subst hm
      exact ⟨fun i hi => (by cases hi), (by simp; omega), (by simp; omega), (by simp; omega), rfl, (by rw [e]; omega)⟩
    · intro c
      have := c.bal
      rw [e] at this
      show s.g ≤ 1 ∧ -1 ≤ s.g
      omega
  | [], L + 1, s, m, ev, h, hL => by
    have ht := h.tot
    constructor
    · intro a; exact a.elim
    · intro c
      have hm := spc_nil c.sp.symm
      have h0 := c.c0
      have h2 := c.c2
      have h3 := c.c3
      simp at h0 h2 h3
      omega
  | i :: l, 0, s, m, ev, h, hL => by
    have ht := h.tot
    constructor
    · intro a; exact a.elim
    · intro c
      exfalso
      have hi := (sgs_cons.mp c.sg).1
      have hm : m = 0 := by omega
      subst hm
      have h0 := c.c0
      have h2 := c.c2
      have h3 := c.c3
      have h4 := c.sp
      rcases i with _ | _ | _ | _ | _ | i
      · rw [List.count_cons_self] at h0; omega
      · cases h4
      · rw [List.count_cons_self] at h2; omega
      · rw [List.count_cons_self] at h3; omega
      · cases h4
      · omega
  | i :: l, L + 1, s, m, ev, h, hL => by
    have ht := h.tot
    have ae : alt ev (i :: l) = (if i = 0 then sgn ev else 0) + alt (!ev) l := rfl
    have step : ∀ (s' : St) (m' : Nat), stp s ev i = some s' → Sp s' m' → (acc (L + 1) s ev (i :: l) ↔ i < 5 ∧ Chr s'.b s'.n s'.q m' s'.g (!ev) l) := fun s' m' hs hp => by
      have tt := stp_tot hs
      have ih := acc_chr l L s' m' (!ev) hp (by omega)
      constructor
      · rintro ⟨hi, s2, hs2, ha⟩
        rw [hs] at hs2
        cases hs2
        exact ⟨hi, ih.mp ha⟩
      · rintro ⟨hi, c⟩
        exact ⟨hi, s', hs, ih.mpr c⟩
    have none_ : stp s ev i = none → (acc (L + 1) s ev (i :: l) ↔ False) := fun hs => by
      constructor
      · rintro ⟨hi, s2, hs2, ha⟩
        rw [hs] at hs2
        cases hs2
      · exact fun f => f.elim
    by_cases hi5 : i < 5
    case neg =>
      constructor
      · rintro ⟨hi, _⟩; exact absurd hi hi5
      · intro c; exact absurd (sgs_cons.mp c.sg).1 hi5
    rcases i with _ | _ | _ | _ | _ | i
    · -- B
      by_cases c : s.b = 0
      · rw [none_ (by rw [stp0, if_pos c])]
        constructor
        · exact fun f => f.elim
        · intro k
          have := k.c0
          rw [List.count_cons_self] at this
          omega
      · rw [step { s with b := s.b - 1, g := s.g + (if ev = true then 1 else -1) } m (by rw [stp0, if_neg c]) h]
        have hg : (s.g + (if ev = true then 1 else -1)) + alt (!ev) l = s.g + alt ev (0 :: l) := by
          rw [ae]
          unfold sgn
          simp
          omega
        constructor
        · rintro ⟨_, k⟩
          have k0 := k.c0
          dsimp only at k0
          have kb := k.bal
          dsimp only at kb
          rw [hg] at kb
          exact ⟨sgs_cons.mpr ⟨hi5, k.sg⟩, by rw [List.count_cons_self]; omega, by rw [← k.c2]; simp, by rw [← k.c3]; simp, by rw [← k.sp]; rfl, kb⟩
        · intro k
          have k0 := k.c0
          rw [List.count_cons_self] at k0
          refine ⟨hi5, (sgs_cons.mp k.sg).2, by dsimp only; omega, by rw [← k.c2]; simp, by rw [← k.c3]; simp, by rw [← k.sp]; rfl, ?_⟩
          dsimp only
          rw [hg]
          exact k.bal
    · -- K
      have ag : alt ev (1 :: l) = alt (!ev) l := by rw [ae]; simp
      rcases h with ⟨rfl, h0, h1, h2⟩ | ⟨rfl, h0, h1, h2⟩ | ⟨rfl, h0, h1, h2⟩ | ⟨rfl, h0, h1, h2⟩
      · rw [none_ (by rw [stp1, if_pos (by omega)])]
        exact ⟨fun f => f.elim, fun k => by have := k.sp; cases this⟩
      · rw [step { s with k := s.k - 1 } 1 (by rw [stp1, if_neg (by omega)]) (.inr (.inr (.inl ⟨rfl, h0, by simp [h1], h2⟩)))]
        constructor
        · rintro ⟨_, k⟩
          have kb := k.bal
          rw [← ag] at kb
          exact ⟨sgs_cons.mpr ⟨hi5, k.sg⟩, by rw [← k.c0]; simp, by rw [← k.c2]; simp, by rw [← k.c3]; simp, by show 1 :: l.filter isS = _; rw [k.sp]; rfl, kb⟩
        · intro k
          have kb := k.bal
          rw [ag] at kb
          have ks : 1 :: l.filter isS = [1, 4] := k.sp
          have ks : l.filter isS = [4] := by simpa using ks
          exact ⟨hi5, (sgs_cons.mp k.sg).2, by rw [← k.c0]; simp, by rw [← k.c2]; simp, by rw [← k.c3]; simp, ks, kb⟩
      · rw [none_ (by rw [stp1, if_pos (by omega)])]
        exact ⟨fun f => f.elim, fun k => by have := k.sp; cases this⟩
      · rw [none_ (by rw [stp1, if_pos (by omega)])]
        exact ⟨fun f => f.elim, fun k => by have := k.sp; cases this⟩
    · -- N
      have ag : alt ev (2 :: l) = alt (!ev) l := by rw [ae]; simp
      by_cases c : s.n = 0
      · rw [none_ (by rw [stp2, if_pos c])]
        constructor
        · exact fun f => f.elim
        · intro k
          have := k.c2
          rw [List.count_cons_self] at this
          omega
      · rw [step { s with n := s.n - 1 } m (by rw [stp2, if_neg c]) h]
        constructor
        · rintro ⟨_, k⟩
          have k0 := k.c2
          dsimp only at k0
          have kb := k.bal
          rw [← ag] at kb
          exact ⟨sgs_cons.mpr ⟨hi5, k.sg⟩, by rw [← k.c0]; simp, by rw [List.count_cons_self]; omega, by rw [← k.c3]; simp, by rw [← k.sp]; rfl, kb⟩
        · intro k
          have k0 := k.c2
          rw [List.count_cons_self] at k0
          have kb := k.bal
          rw [ag] at kb
          exact ⟨hi5, (sgs_cons.mp k.sg).2, by rw [← k.c0]; simp, by dsimp only; omega, by rw [← k.c3]; simp, by rw [← k.sp]; rfl, kb⟩
    · -- Q
      have ag : alt ev (3 :: l) = alt (!ev) l := by rw [ae]; simp
      by_cases c : s.q = 0
      · rw [none_ (by rw [stp3, if_pos c])]
        constructor
        · exact fun f => f.elim
        · intro k
          have := k.c3
          rw [List.count_cons_self] at this
          omega
      · rw [step { s with q := s.q - 1 } m (by rw [stp3, if_neg c]) h]
        constructor
        · rintro ⟨_, k⟩
          have k0 := k.c3
          dsimp only at k0
          have kb := k.bal
          rw [← ag] at kb
          exact ⟨sgs_cons.mpr ⟨hi5, k.sg⟩, by rw [← k.c0]; simp, by rw [← k.c2]; simp, by rw [List.count_cons_self]; omega, by rw [← k.sp]; rfl, kb⟩
        · intro k
          have k0 := k.c3
          rw [List.count_cons_self] at k0
          have kb := k.bal
          rw [ag] at kb
          exact ⟨hi5, (sgs_cons.mp k.sg).2, by rw [← k.c0]; simp, by rw [← k.c2]; simp, by dsimp only; omega, by rw [← k.sp]; rfl, kb⟩
    · -- R
      have ag : alt ev (4 :: l) = alt (!ev) l := by rw [ae]; simp
      have go : ∀ (m m' : Nat) (s' : St), s'.b = s.b → s'.n = s.n → s'.q = s.q → s'.g = s.g → spc m = 4 :: spc m' → ((4 < 5 ∧ Chr s'.b s'.n s'.q m' s'.g (!ev) l) ↔ Chr s.b s.n s.q m s.g ev (4 :: l)) := fun m m' s' e1 e2 e3 e4 e5 => by
        rw [e1, e2, e3, e4]
        constructor
        · rintro ⟨_, k⟩
          have kb := k.bal
          rw [← ag] at kb
          exact ⟨sgs_cons.mpr ⟨by decide, k.sg⟩, by rw [← k.c0]; simp, by rw [← k.c2]; simp, by rw [← k.c3]; simp, by rw [e5]; show 4 :: l.filter isS = _; rw [k.sp], kb⟩
        · intro k
          have kb := k.bal
          rw [ag] at kb
          have ks : 4 :: l.filter isS = spc m := k.sp
          rw [e5] at ks
          exact ⟨by decide, (sgs_cons.mp k.sg).2, by rw [← k.c0]; simp, by rw [← k.c2]; simp, by rw [← k.c3]; simp, by simpa using ks, kb⟩
      rcases h with ⟨rfl, h0, h1, h2⟩ | ⟨rfl, h0, h1, h2⟩ | ⟨rfl, h0, h1, h2⟩ | ⟨rfl, h0, h1, h2⟩
      · rw [step { s with r := s.r - 1, rk := s.rk + 1 } 2 (by rw [stp4, if_neg (by omega)]) (.inr (.inl ⟨rfl, by simp [h0], h1, by simp [h2]⟩))]
        exact go 3 2 _ rfl rfl rfl rfl rfl
      · rw [none_ (by rw [stp4, if_pos (by omega)])]
        exact ⟨fun f => f.elim, fun k => by have := k.sp; cases this⟩
      · rw [step { s with r := s.r - 1, rk := s.rk + 1 } 0 (by rw [stp4, if_neg (by omega)]) (.inr (.inr (.inr ⟨rfl, by simp [h0], h1, by simp [h2]⟩)))]
        exact go 1 0 _ rfl rfl rfl rfl rfl
      · rw [none_ (by rw [stp4, if_pos (by omega)])]
        exact ⟨fun f => f.elim, fun k => by have := k.sp; cases this⟩
    · omega
/-! ### turned about -/
theorem alt_not : ∀ (l : List Nat) (ev : Bool), alt (!ev) l = -alt ev l
  | [], _ => rfl
  | i :: l, ev => by
    unfold alt
    rw [alt_not l (!ev)]
    have : sgn (!ev) = -sgn ev := by cases ev <;> rfl
    rw [this]
    split <;> omega
theorem alt_app : ∀ (l : List Nat) (i : Nat) (ev : Bool), alt ev (l ++ [i]) = alt ev l + (if i = 0 then (if l.length % 2 = 0 then sgn ev else -sgn ev) else 0)
  | [], i, ev => by
    show (if i = 0 then sgn ev else 0) + 0 = 0 + _
    simp
  | j :: l, i, ev => by
    have e : alt ev (j :: l ++ [i]) = (if j = 0 then sgn ev else 0) + alt (!ev) (l ++ [i]) := rfl
    have e2 : alt ev (j :: l) = (if j = 0 then sgn ev else 0) + alt (!ev) l := rfl
    have s : sgn (!ev) = -sgn ev := by cases ev <;> rfl
    rw [e, e2, alt_app l i (!ev), s, List.length_cons]
    by_cases c : l.length % 2 = 0
    · rw [if_pos c, if_neg (show ¬ (l.length + 1) % 2 = 0 from by omega)]; omega
    · rw [if_neg c, if_pos (show (l.length + 1) % 2 = 0 from by omega)]
      split <;> omega
theorem alt_rev : ∀ (l : List Nat) (ev : Bool), alt ev l.reverse = if l.length % 2 = 0 then -alt ev l else alt ev l
  | [], _ => rfl
  | j :: l, ev => by
    have e2 : alt ev (j :: l) = (if j = 0 then sgn ev else 0) + alt (!ev) l := rfl
    rw [List.reverse_cons, alt_app, alt_rev l ev, List.length_reverse, e2, alt_not, List.length_cons]
    by_cases c : l.length % 2 = 0
    · rw [if_pos c, if_pos c, if_neg (show ¬ (l.length + 1) % 2 = 0 from by omega)]; split <;> omega
    · rw [if_neg c, if_neg c, if_pos (show (l.length + 1) % 2 = 0 from by omega)]; split <;> omega
theorem Chr.rev {b n q : Nat} {l : List Nat} (h : Chr b n q 3 0 true l) : Chr b n q 3 0 true l.reverse := by
  refine ⟨fun i hi => h.sg i (List.mem_reverse.mp hi), by rw [List.count_reverse]; exact h.c0, by rw [List.count_reverse]; exact h.c2, by rw [List.count_reverse]; exact h.c3, by rw [List.filter_reverse, h.sp]; rfl, ?_⟩
  have := h.bal
  rw [alt_rev]
  split <;> omega
theorem alt_parts : ∀ (l : List Nat), alt true l = ((evs l).count 0 : Int) - (ods l).count 0
  | [] => rfl
  | i :: l => by
    have e2 : alt true (i :: l) = (if i = 0 then 1 else 0) + alt false l := rfl
    have e3 : alt false l = -alt true l := alt_not l true
    have e4 : evs (i :: l) = i :: ods l := by simp only [evs]
    have e5 : ods (i :: l) = evs l := by simp only [ods]
    rw [e2, e3, alt_parts l, e4, e5, List.count_cons]
    by_cases c : i = 0
    · simp [c]; omega
    · simp [c]; omega
end K77
end

section
set_option autoImplicit false
namespace K77
open PySem T3
theorem len_counts : ∀ {l : List Nat}, Sgs l → l.length = l.count 0 + l.count 1 + l.count 2 + l.count 3 + l.count 4
  | [], _ => rfl
  | i :: l, h => by
    obtain ⟨hi, h⟩ := sgs_cons.mp h
    have ih := len_counts h
    rw [List.length_cons, List.count_cons, List.count_cons, List.count_cons, List.count_cons, List.count_cons]
    rcases i with _ | _ | _ | _ | _ | i
    · simp; omega
    · simp; omega
    · simp; omega
    · simp; omega
    · simp; omega
    · omega
theorem split414 {X Y : List Nat} (h : X ++ 1 :: Y = [4, 1, 4]) : X = [4] ∧ Y = [4] := by
  rcases X with _ | ⟨a, _ | ⟨b, _ | ⟨c, X⟩⟩⟩
  · cases h
  · cases h; exact ⟨rfl, rfl⟩
  · cases h
  · have := congrArg List.length h
    simp at this
theorem chr_fit {b n q : Nat} {l : List Nat} (h : Chr b n q 3 0 true l) : Fit b n q l := by
  have hs : l.filter isS = [4, 1, 4] := h.sp
  have c1 : l.count 1 = 1 := by
    have e : (l.filter isS).count 1 = l.count 1 := List.count_filter rfl
    rw [← e, hs]
    rfl
  have c4 : l.count 4 = 2 := by
    have e : (l.filter isS).count 4 = l.count 4 := List.count_filter rfl
    rw [← e, hs]
    rfl
  refine ⟨h.sg, h.c0, c1, h.c2, h.c3, c4, ?_, fun k hk => ?_, ?_⟩
  · have := len_counts h.sg
    have h0 := h.c0
    have h2 := h.c2
    have h3 := h.c3
    omega
  · obtain ⟨hlt, e⟩ := List.getElem?_eq_some_iff.mp hk
    have el : l = l.take k ++ 1 :: l.drop (k + 1) := by
      have := List.drop_eq_getElem_cons hlt
      rw [e] at this
      rw [← this, List.take_append_drop]
    have hs2 := hs
    rw [el, List.filter_append, List.filter_cons] at hs2
    rw [if_pos (show isS 1 = true from rfl)] at hs2
    obtain ⟨e1, e2⟩ := split414 hs2
    constructor
    · have : 4 ∈ (l.take k).filter isS := by rw [e1]; exact List.mem_cons_self
      exact (List.mem_filter.mp this).1
    · have : 4 ∈ (l.drop (k + 1)).filter isS := by rw [e2]; exact List.mem_cons_self
      have := (List.mem_filter.mp this).1
      rw [List.drop_eq_getElem_cons hlt]
      exact List.mem_cons_of_mem _ this
  · have := h.bal
    rw [Int.zero_add, alt_parts] at this
    omega
theorem acc_fs {b n q : Nat} {l : List Nat} : acc (b + n + q + 3) (fs b n q) true l ↔ Chr b n q 3 0 true l :=
  acc_chr l (b + n + q + 3) (fs b n q) 3 true (.inl ⟨rfl, rfl, rfl, rfl⟩) (tot_fs b n q)
end K77
end

section
set_option autoImplicit false
namespace K77
open PySem T3
/-! ### rows that read alike both ways -/
theorem two_at {l : List Nat} {a i j : Nat} (hij : i < j) (h1 : l[i]? = some a) (h2 : l[j]? = some a) : 2 ≤ l.count a := by
  have e : l.count a = (l.take j).count a + (l.drop j).count a := by rw [← List.count_append, List.take_append_drop]
  have c1 : 0 < (l.take j).count a := List.count_pos_iff.mpr (List.mem_of_getElem? (i := i) (by rw [List.getElem?_take, if_pos hij]; exact h1))
  have c2 : 0 < (l.drop j).count a := List.count_pos_iff.mpr (List.mem_of_getElem? (i := 0) (by rw [List.getElem?_drop, Nat.add_zero]; exact h2))
  omega
theorem pal_mid {l : List Nat} (hc : l.count 1 = 1) (hr : l.reverse = l) : l.length % 2 = 1 ∧ l[l.length / 2]? = some 1 := by
  have hm : (1 : Nat) ∈ l := List.count_pos_iff.mp (by omega)
  obtain ⟨k, hk⟩ := List.mem_iff_getElem?.mp hm
  have hlt : k < l.length := by
    rw [List.getElem?_eq_some_iff] at hk
    exact hk.1
  have hk2 : l[l.length - 1 - k]? = some 1 := by
    rw [← hr, List.getElem?_reverse (by rw [List.length_reverse]; omega), List.length_reverse] 
    rw [show l.length - 1 - (l.length - 1 - k) = k from by omega]
    exact hk
  have e : k = l.length - 1 - k := by
    rcases Nat.lt_trichotomy k (l.length - 1 - k) with h | h | h
    · have := two_at h hk hk2
      omega
    · exact h
    · have := two_at h hk2 hk
      omega
  refine ⟨by omega, ?_⟩
  rw [show l.length / 2 = k from by omega]
  exact hk
theorem cnt3 (f : Nat → Nat) : ∀ l : List Nat, l.countP (fun i => decide (i < f i)) + l.countP (fun i => decide (f i < i)) + l.countP (fun i => f i == i) = l.length
  | [] => rfl
  | i :: l => by
    have ih := cnt3 f l
    rw [List.countP_cons, List.countP_cons, List.countP_cons, List.length_cons]
    rcases Nat.lt_trichotomy i (f i) with h | h | h
    · rw [if_pos (decide_eq_true h), if_neg (by simp; omega), if_neg (by simp; omega)]
      omega
    · rw [if_neg (by simp; omega), if_neg (by simp; omega), if_pos (by simp; omega)]
      omega
    · rw [if_neg (by simp; omega), if_pos (decide_eq_true h), if_neg (by simp; omega)]
      omega
theorem nodup_map {f : Nat → Nat} : ∀ {l : List Nat}, l.Nodup → (∀ a ∈ l, ∀ b ∈ l, f a = f b → a = b) → (l.map f).Nodup
  | [], _, _ => List.nodup_nil
  | a :: l, h, hi => by
    rw [List.nodup_cons] at h
    rw [List.map_cons, List.nodup_cons]
    refine ⟨fun hm => ?_, nodup_map h.2 fun x hx y hy => hi x (List.mem_cons_of_mem _ hx) y (List.mem_cons_of_mem _ hy)⟩
    obtain ⟨b, hb, e⟩ := List.mem_map.mp hm
    have := hi b (List.mem_cons_of_mem _ hb) a List.mem_cons_self e
    subst this
    exact h.1 hb
/-- what is not fixed by an exchange comes in twos -/
theorem even_inv (n : Nat) (f : Nat → Nat) (h1 : ∀ i, i < n → f i < n) (h2 : ∀ i, i < n → f (f i) = i) : (n - ((List.range n).filter fun i => f i == i).length) % 2 = 0 := by
  have c := cnt3 f (List.range n)
  rw [List.length_range] at c
  have p : ((List.range n).map f).Perm (List.range n) := by
    refine (List.perm_ext_iff_of_nodup (nodup_map List.nodup_range fun a ha b hb e => ?_) List.nodup_range).mpr fun a => ?_
    · rw [← h2 a (List.mem_range.mp ha), ← h2 b (List.mem_range.mp hb), e]
    · rw [List.mem_map, List.mem_range]
      constructor
      · rintro ⟨b, hb, rfl⟩
        exact h1 b (List.mem_range.mp hb)
      · exact fun ha => ⟨f a, List.mem_range.mpr (h1 a ha), h2 a ha⟩
  have q := p.countP_eq (fun i => decide (i < f i))
  rw [List.countP_map] at q
  have q2 : (List.range n).countP ((fun i => decide (i < f i)) ∘ f) = (List.range n).countP (fun i => decide (f i < i)) := by
    refine List.countP_congr fun i hi => ?_
    have := h2 i (List.mem_range.mp hi)
    simp [this]
  rw [q2] at q
  rw [← List.countP_eq_length_filter]
  omega
end K77
end

section
set_option autoImplicit false
namespace K77
open PySem PySem.Spec PyProof.Rows L2 T3
/-! ### own_mirrored -/
abbrev own1 (fc fr : List T3.D → FR) : EX := vLc [2] [] (iRange1 (callF false (fc) (aCons (fz [] (vName 0)) (aNil)))) (gN [] 2) (tstYes) (callF false (fr) (aCons (fz [] (vName 0)) (aCons (fz [] (vName 2)) (aNil))))
abbrev own2 : EX := vLc [3] [] (iSeq [] (vName 1)) (gN [] 3) (tst (op2 (pEq false) (vName 3) (opSt (vName 3) (ptNone) (ptNone) (ptSome (op1 pNeg (vC (.int 1))))))) (vName 3)
theorem lcl_ok {vs ms : List Nat} {it : IX} {g : GX} {t : BX} {f : EX} {env e e1 e2 : En} {ds acc : List T3.D} (h : it env = .ok ds e) (h1 : wipeE vs e = some e1) (h2 : lcl vs ms g t f ds e1 [] = .ok acc e2) {e3 : En} (h3 : back e vs e2 = e3) : vLc vs ms it g t f env = .ok (.ow (.list acc)) e3 := by
  rw [← h3]; exact lc_ok h h1 h2
theorem own1_ok {fc fr : List T3.D → FR} {kd : T3.D} {W : Nat} {tx : Nat → Str} (hW : W ≤ 1000000) (h1 : fc [kd] = .ok (.int (W : Int)) none) (h2 : ∀ m, m < W → fr [kd, .int (m : Int)] = .ok (.str (tx m)) none) :
    own1 fc fr [.fz kd, .non, .non, .non] = .ok (.ow (.list ((List.range W).map fun m => .str (tx m)))) [.fz kd, .non, .non, .non] := by
  have hF : fit62 (W : Int) = true := fit62_nat hW
  have hl : ([] : List T3.D).length + (List.range W).length ≤ line := by
    rw [List.length_range, List.length_nil, Nat.zero_add]
    exact Nat.le_trans hW (by decide)
  have key := lcl_map (enc := fun (j : Nat) => PyData.int (j : Int)) (vs := [2]) (ms := []) (g := gN [] 2) (t := tstYes) (f := callF false (fr) (aCons (fz [] (vName 0)) (aCons (fz [] (vName 2)) (aNil)))) (e0 := [.fz kd, .non, .non, .non]) (fun _ => true) (fun m => .str (tx m)) (List.range W) [] hl fun m hm => by
    have h := h2 m (List.mem_range.mp hm)
    refine ⟨_, _, [.fz kd, .non, .fz (.int (m : Int)), .non], rfl, rfl, fun _ => ?_, fun z => (Bool.noConfusion z), rfl⟩
    simp only [e_vName, e_vC, e_rd, e_fz, e_op1, e_op2, e_aNil, e_aCons, e_aLast, e_opN, e_dsp, e_opC, e_vOr, e_vAnd, e_vNot, e_vIf, e_tst, e_tru, e_tAnd, e_tOr, e_tNot, e_opMt, e_ptNone, e_ptSome, e_opSl, e_opSt, e_callF, e_callIo, e_mMut, e_vDict0, e_vDict, e_dCons, e_dNil, e_sNil, e_sSeq, e_sIf, e_sRet, e_sRetN, e_sExpr, e_sBk, e_sCt, e_sSet, e_slF, e_sAsg, e_sPut, e_iSeq, e_iRange1, e_iRange2, e_iEnum, e_tstYes, e_gN0, e_gT, e_gsNil, e_gsCons, e_eqI, fzR, Rv.get, getA, allFz, appO, Out.rv, List.getElem?_cons_zero, List.getElem?_cons_succ, List.set_cons_zero, List.set_cons_succ, Nat.reduceAdd, List.length_cons, List.length_nil, if_true, if_false, one, decide_true, decide_false, Bool.xor_false, Bool.false_xor, Bool.true_xor, Bool.not_true, Bool.not_false, oTup, oLst, splitL, List.cons_append, List.nil_append, e_gN, and_self, o_addI, o_subI, o_mulI, o_modI, o_neg, o_ltI, o_leI, o_gtI, o_geI, o_isN, o_nN, o_nB, o_nI, o_nS, o_nT, o_nL, o_nD, o_isB, o_itL, o_itT, o_listL, o_listT, o_tupL, o_tupT, o_lenL, o_lenT, o_lenS, o_abs, o_toInt, o_app, o_ixTn, o_ixLn, o_ixDct, o_inDct, o_setLn, o_setDct, o_sumL, o_sumT, o_ln0, o_ln1, o_ln2, o_ln3, o_ln4, o_ln5, o_ln6, o_ln7, o_ln8, o_ln9, o_ln10, o_ln11, o_ixT0, o_ixL0, o_setL0, o_ixT1, o_ixL1, o_setL1, o_ixT2, o_ixL2, o_setL2, o_ixT3, o_ixL3, o_setL3, o_ixT4, o_ixL4, o_setL4, o_ixT5, o_ixL5, o_setL5, o_ixT6, o_ixL6, o_setL6, o_ixT7, o_ixL7, o_setL7, o_ixT8, o_ixL8, o_setL8, o_ixT9, o_ixL9, o_setL9, o_divI, Option.map_some, Option.map_none, List.not_mem_nil, reduceIte, Bool.false_eq_true, List.mem_singleton, Nat.reduceLT, Nat.reduceLeDiff, Int.reduceLT, Int.reduceLE, Nat.reduceEqDiff, Int.reduceNeg, h]
  rw [List.nil_append, List.filter_eq_self.mpr (fun _ _ => rfl)] at key
  refine lcl_ok (ds := (List.range W).map fun (j : Nat) => PyData.int (j : Int)) (e := [.fz kd, .non, .non, .non]) ?_ rfl key ?_
  · rw [← range_enc]
    simp only [e_vName, e_vC, e_rd, e_fz, e_op1, e_op2, e_aNil, e_aCons, e_aLast, e_opN, e_dsp, e_opC, e_vOr, e_vAnd, e_vNot, e_vIf, e_tst, e_tru, e_tAnd, e_tOr, e_tNot, e_opMt, e_ptNone, e_ptSome, e_opSl, e_opSt, e_callF, e_callIo, e_mMut, e_vDict0, e_vDict, e_dCons, e_dNil, e_sNil, e_sSeq, e_sIf, e_sRet, e_sRetN, e_sExpr, e_sBk, e_sCt, e_sSet, e_slF, e_sAsg, e_sPut, e_iSeq, e_iRange1, e_iRange2, e_iEnum, e_tstYes, e_gN0, e_gT, e_gsNil, e_gsCons, e_eqI, fzR, Rv.get, getA, allFz, appO, Out.rv, List.getElem?_cons_zero, List.getElem?_cons_succ, List.set_cons_zero, List.set_cons_succ, Nat.reduceAdd, List.length_cons, List.length_nil, if_true, if_false, one, decide_true, decide_false, Bool.xor_false, Bool.false_xor, Bool.true_xor, Bool.not_true, Bool.not_false, oTup, oLst, splitL, List.cons_append, List.nil_append, e_gN, and_self, o_addI, o_subI, o_mulI, o_modI, o_neg, o_ltI, o_leI, o_gtI, o_geI, o_isN, o_nN, o_nB, o_nI, o_nS, o_nT, o_nL, o_nD, o_isB, o_itL, o_itT, o_listL, o_listT, o_tupL, o_tupT, o_lenL, o_lenT, o_lenS, o_abs, o_toInt, o_app, o_ixTn, o_ixLn, o_ixDct, o_inDct, o_setLn, o_setDct, o_sumL, o_sumT, o_ln0, o_ln1, o_ln2, o_ln3, o_ln4, o_ln5, o_ln6, o_ln7, o_ln8, o_ln9, o_ln10, o_ln11, o_ixT0, o_ixL0, o_setL0, o_ixT1, o_ixL1, o_setL1, o_ixT2, o_ixL2, o_setL2, o_ixT3, o_ixL3, o_setL3, o_ixT4, o_ixL4, o_setL4, o_ixT5, o_ixL5, o_setL5, o_ixT6, o_ixL6, o_setL6, o_ixT7, o_ixL7, o_setL7, o_ixT8, o_ixL8, o_setL8, o_ixT9, o_ixL9, o_setL9, o_divI, Option.map_some, Option.map_none, List.not_mem_nil, reduceIte, Bool.false_eq_true, List.mem_singleton, Nat.reduceLT, Nat.reduceLeDiff, Int.reduceLT, Int.reduceLE, Nat.reduceEqDiff, Int.reduceNeg, h1, hF]
  · rfl
theorem own2_ok {kd : T3.D} {W : Nat} {tx rv : Nat → Str} {p : Nat → Bool} (hW : W ≤ 1000000) (hs : ∀ m, m < W → pStep (.str (tx m)) none none (-1) = some (.fz (.str (rv m)))) (he : ∀ m, m < W → pEq false (.str (tx m)) (.str (rv m)) = some (.fz (.bool (p m)))) :
    ∃ e, own2 [.fz kd, .ow (.list ((List.range W).map fun m => .str (tx m))), .non, .non] = .ok (.ow (.list (((List.range W).filter p).map fun m => .str (tx m)))) e := by
  have hl : ([] : List T3.D).length + (List.range W).length ≤ line := by
    rw [List.length_range, List.length_nil, Nat.zero_add]
    exact Nat.le_trans hW (by decide)
  generalize hL : (PyData.list ((List.range W).map fun m => .str (tx m))) = L
  have key := lcl_map (enc := fun (j : Nat) => PyData.str (tx j)) (vs := [3]) (ms := []) (g := gN [] 3) (t := tst (op2 (pEq false) (vName 3) (opSt (vName 3) (ptNone) (ptNone) (ptSome (op1 pNeg (vC (.int 1))))))) (f := vName 3) (e0 := [.fz kd, .fz L, .non, .non]) p (fun m => .str (tx m)) (List.range W) [] hl fun m hm => by
    have s := hs m (List.mem_range.mp hm)
    have e := he m (List.mem_range.mp hm)
    refine ⟨_, [.fz kd, .fz L, .non, .fz (.str (tx m))], [.fz kd, .fz L, .non, .fz (.str (tx m))], rfl, ?_, fun _ => ?_, fun z => rfl, rfl⟩
    · simp only [e_vName, e_vC, e_rd, e_fz, e_op1, e_op2, e_aNil, e_aCons, e_aLast, e_opN, e_dsp, e_opC, e_vOr, e_vAnd, e_vNot, e_vIf, e_tst, e_tru, e_tAnd, e_tOr, e_tNot, e_opMt, e_ptNone, e_ptSome, e_opSl, e_opSt, e_callF, e_callIo, e_mMut, e_vDict0, e_vDict, e_dCons, e_dNil, e_sNil, e_sSeq, e_sIf, e_sRet, e_sRetN, e_sExpr, e_sBk, e_sCt, e_sSet, e_slF, e_sAsg, e_sPut, e_iSeq, e_iRange1, e_iRange2, e_iEnum, e_tstYes, e_gN0, e_gT, e_gsNil, e_gsCons, e_eqI, fzR, Rv.get, getA, allFz, appO, Out.rv, List.getElem?_cons_zero, List.getElem?_cons_succ, List.set_cons_zero, List.set_cons_succ, Nat.reduceAdd, List.length_cons, List.length_nil, if_true, if_false, one, decide_true, decide_false, Bool.xor_false, Bool.false_xor, Bool.true_xor, Bool.not_true, Bool.not_false, oTup, oLst, splitL, List.cons_append, List.nil_append, e_gN, and_self, o_addI, o_subI, o_mulI, o_modI, o_neg, o_ltI, o_leI, o_gtI, o_geI, o_isN, o_nN, o_nB, o_nI, o_nS, o_nT, o_nL, o_nD, o_isB, o_itL, o_itT, o_listL, o_listT, o_tupL, o_tupT, o_lenL, o_lenT, o_lenS, o_abs, o_toInt, o_app, o_ixTn, o_ixLn, o_ixDct, o_inDct, o_setLn, o_setDct, o_sumL, o_sumT, o_ln0, o_ln1, o_ln2, o_ln3, o_ln4, o_ln5, o_ln6, o_ln7, o_ln8, o_ln9, o_ln10, o_ln11, o_ixT0, o_ixL0, o_setL0, o_ixT1, o_ixL1, o_setL1, o_ixT2, o_ixL2, o_setL2, o_ixT3, o_ixL3, o_setL3, o_ixT4, o_ixL4, o_setL4, o_ixT5, o_ixL5, o_setL5, o_ixT6, o_ixL6, o_setL6, o_ixT7, o_ixL7, o_setL7, o_ixT8, o_ixL8, o_setL8, o_ixT9, o_ixL9, o_setL9, o_divI, Option.map_some, Option.map_none, List.not_mem_nil, reduceIte, Bool.false_eq_true, List.mem_singleton, Nat.reduceLT, Nat.reduceLeDiff, Int.reduceLT, Int.reduceLE, Nat.reduceEqDiff, Int.reduceNeg, s, e]
    · simp only [e_vName, e_vC, e_rd, e_fz, e_op1, e_op2, e_aNil, e_aCons, e_aLast, e_opN, e_dsp, e_opC, e_vOr, e_vAnd, e_vNot, e_vIf, e_tst, e_tru, e_tAnd, e_tOr, e_tNot, e_opMt, e_ptNone, e_ptSome, e_opSl, e_opSt, e_callF, e_callIo, e_mMut, e_vDict0, e_vDict, e_dCons, e_dNil, e_sNil, e_sSeq, e_sIf, e_sRet, e_sRetN, e_sExpr, e_sBk, e_sCt, e_sSet, e_slF, e_sAsg, e_sPut, e_iSeq, e_iRange1, e_iRange2, e_iEnum, e_tstYes, e_gN0, e_gT, e_gsNil, e_gsCons, e_eqI, fzR, Rv.get, getA, allFz, appO, Out.rv, List.getElem?_cons_zero, List.getElem?_cons_succ, List.set_cons_zero, List.set_cons_succ, Nat.reduceAdd, List.length_cons, List.length_nil, if_true, if_false, one, decide_true, decide_false, Bool.xor_false, Bool.false_xor, Bool.true_xor, Bool.not_true, Bool.not_false, oTup, oLst, splitL, List.cons_append, List.nil_append, e_gN, and_self, o_addI, o_subI, o_mulI, o_modI, o_neg, o_ltI, o_leI, o_gtI, o_geI, o_isN, o_nN, o_nB, o_nI, o_nS, o_nT, o_nL, o_nD, o_isB, o_itL, o_itT, o_listL, o_listT, o_tupL, o_tupT, o_lenL, o_lenT, o_lenS, o_abs, o_toInt, o_app, o_ixTn, o_ixLn, o_ixDct, o_inDct, o_setLn, o_setDct, o_sumL, o_sumT, o_ln0, o_ln1, o_ln2, o_ln3, o_ln4, o_ln5, o_ln6, o_ln7, o_ln8, o_ln9, o_ln10, o_ln11, o_ixT0, o_ixL0, o_setL0, o_ixT1, o_ixL1, o_setL1, o_ixT2, o_ixL2, o_setL2, o_ixT3, o_ixL3, o_setL3, o_ixT4, o_ixL4, o_setL4, o_ixT5, o_ixL5, o_setL5, o_ixT6, o_ixL6, o_setL6, o_ixT7, o_ixL7, o_setL7, o_ixT8, o_ixL8, o_setL8, o_ixT9, o_ixL9, o_setL9, o_divI, Option.map_some, Option.map_none, List.not_mem_nil, reduceIte, Bool.false_eq_true, List.mem_singleton, Nat.reduceLT, Nat.reduceLeDiff, Int.reduceLT, Int.reduceLE, Nat.reduceEqDiff, Int.reduceNeg]
  rw [List.nil_append] at key
  refine ⟨_, lcl_ok (ds := (List.range W).map fun (j : Nat) => PyData.str (tx j)) (e := [.fz kd, .fz L, .non, .non]) ?_ rfl key rfl⟩
  have i : itemsOf L = some ((List.range W).map fun m => .str (tx m)) := by rw [← hL]; rfl
  simp only [e_vName, e_vC, e_rd, e_fz, e_op1, e_op2, e_aNil, e_aCons, e_aLast, e_opN, e_dsp, e_opC, e_vOr, e_vAnd, e_vNot, e_vIf, e_tst, e_tru, e_tAnd, e_tOr, e_tNot, e_opMt, e_ptNone, e_ptSome, e_opSl, e_opSt, e_callF, e_callIo, e_mMut, e_vDict0, e_vDict, e_dCons, e_dNil, e_sNil, e_sSeq, e_sIf, e_sRet, e_sRetN, e_sExpr, e_sBk, e_sCt, e_sSet, e_slF, e_sAsg, e_sPut, e_iSeq, e_iRange1, e_iRange2, e_iEnum, e_tstYes, e_gN0, e_gT, e_gsNil, e_gsCons, e_eqI, fzR, Rv.get, getA, allFz, appO, Out.rv, List.getElem?_cons_zero, List.getElem?_cons_succ, List.set_cons_zero, List.set_cons_succ, Nat.reduceAdd, List.length_cons, List.length_nil, if_true, if_false, one, decide_true, decide_false, Bool.xor_false, Bool.false_xor, Bool.true_xor, Bool.not_true, Bool.not_false, oTup, oLst, splitL, List.cons_append, List.nil_append, e_gN, and_self, o_addI, o_subI, o_mulI, o_modI, o_neg, o_ltI, o_leI, o_gtI, o_geI, o_isN, o_nN, o_nB, o_nI, o_nS, o_nT, o_nL, o_nD, o_isB, o_itL, o_itT, o_listL, o_listT, o_tupL, o_tupT, o_lenL, o_lenT, o_lenS, o_abs, o_toInt, o_app, o_ixTn, o_ixLn, o_ixDct, o_inDct, o_setLn, o_setDct, o_sumL, o_sumT, o_ln0, o_ln1, o_ln2, o_ln3, o_ln4, o_ln5, o_ln6, o_ln7, o_ln8, o_ln9, o_ln10, o_ln11, o_ixT0, o_ixL0, o_setL0, o_ixT1, o_ixL1, o_setL1, o_ixT2, o_ixL2, o_setL2, o_ixT3, o_ixL3, o_setL3, o_ixT4, o_ixL4, o_setL4, o_ixT5, o_ixL5, o_setL5, o_ixT6, o_ixL6, o_setL6, o_ixT7, o_ixL7, o_setL7, o_ixT8, o_ixL8, o_setL8, o_ixT9, o_ixL9, o_setL9, o_divI, Option.map_some, Option.map_none, List.not_mem_nil, reduceIte, Bool.false_eq_true, List.mem_singleton, Nat.reduceLT, Nat.reduceLeDiff, Int.reduceLT, Int.reduceLE, Nat.reduceEqDiff, Int.reduceNeg, i]
theorem own_body {fc fr : List T3.D → FR} {kd : T3.D} {W : Nat} {tx rv : Nat → Str} {p : Nat → Bool} (hW : W ≤ 1000000) (h1 : fc [kd] = .ok (.int (W : Int)) none) (h2 : ∀ m, m < W → fr [kd, .int (m : Int)] = .ok (.str (tx m)) none)
    (hs : ∀ m, m < W → pStep (.str (tx m)) none none (-1) = some (.fz (.str (rv m)))) (he : ∀ m, m < W → pEq false (.str (tx m)) (.str (rv m)) = some (.fz (.bool (p m)))) :
    mkFn 1 4 false false (sSeq (sSet [] 1 (own1 fc fr)) (sRet own2)) [kd] = .ok (.list (((List.range W).filter p).map fun m => .str (tx m))) none := by
  have a := own1_ok hW h1 h2
  obtain ⟨e, b⟩ := own2_ok (kd := kd) hW hs he
  have t : (sSeq (sSet [] 1 (own1 fc fr)) (sRet own2)) [.fz kd, .non, .non, .non] = .rt (.ow (.list (((List.range W).filter p).map fun m => .str (tx m)))) e := by
    generalize own1 fc fr = x1 at *
    generalize own2 = x2 at *
    simp only [e_vName, e_vC, e_rd, e_fz, e_op1, e_op2, e_aNil, e_aCons, e_aLast, e_opN, e_dsp, e_opC, e_vOr, e_vAnd, e_vNot, e_vIf, e_tst, e_tru, e_tAnd, e_tOr, e_tNot, e_opMt, e_ptNone, e_ptSome, e_opSl, e_opSt, e_callF, e_callIo, e_mMut, e_vDict0, e_vDict, e_dCons, e_dNil, e_sNil, e_sSeq, e_sIf, e_sRet, e_sRetN, e_sExpr, e_sBk, e_sCt, e_sSet, e_slF, e_sAsg, e_sPut, e_iSeq, e_iRange1, e_iRange2, e_iEnum, e_tstYes, e_gN0, e_gT, e_gsNil, e_gsCons, e_eqI, fzR, Rv.get, getA, allFz, appO, Out.rv, List.getElem?_cons_zero, List.getElem?_cons_succ, List.set_cons_zero, List.set_cons_succ, Nat.reduceAdd, List.length_cons, List.length_nil, if_true, if_false, one, decide_true, decide_false, Bool.xor_false, Bool.false_xor, Bool.true_xor, Bool.not_true, Bool.not_false, oTup, oLst, splitL, List.cons_append, List.nil_append, e_gN, and_self, o_addI, o_subI, o_mulI, o_modI, o_neg, o_ltI, o_leI, o_gtI, o_geI, o_isN, o_nN, o_nB, o_nI, o_nS, o_nT, o_nL, o_nD, o_isB, o_itL, o_itT, o_listL, o_listT, o_tupL, o_tupT, o_lenL, o_lenT, o_lenS, o_abs, o_toInt, o_app, o_ixTn, o_ixLn, o_ixDct, o_inDct, o_setLn, o_setDct, o_sumL, o_sumT, o_ln0, o_ln1, o_ln2, o_ln3, o_ln4, o_ln5, o_ln6, o_ln7, o_ln8, o_ln9, o_ln10, o_ln11, o_ixT0, o_ixL0, o_setL0, o_ixT1, o_ixL1, o_setL1, o_ixT2, o_ixL2, o_setL2, o_ixT3, o_ixL3, o_setL3, o_ixT4, o_ixL4, o_setL4, o_ixT5, o_ixL5, o_setL5, o_ixT6, o_ixL6, o_setL6, o_ixT7, o_ixL7, o_setL7, o_ixT8, o_ixL8, o_setL8, o_ixT9, o_ixL9, o_setL9, o_divI, Option.map_some, Option.map_none, List.not_mem_nil, reduceIte, Bool.false_eq_true, List.mem_singleton, Nat.reduceLT, Nat.reduceLeDiff, Int.reduceLT, Int.reduceLE, Nat.reduceEqDiff, Int.reduceNeg, a, b]
  unfold mkFn
  rw [if_pos ⟨rfl, fun h => by cases h⟩]
  exact congrArg (T3.finish false false 0) t
end K77
end

section
set_option autoImplicit false
namespace K77
open PySem PySem.Spec PyProof.Rows L2 T3
/-! ### the law's parts -/
theorem sm0 : pSum [.list []] = some (.fz (.int 0)) := rfl
theorem sm1 (a : Int) : pSum [.list [.int a]] = some (.fz (.int a)) := by have h := o_sumL [a]; simpa using h
theorem sm2 (a b : Int) : pSum [.list [.int a, .int b]] = some (.fz (.int (a + b))) := by have h := o_sumL [a, b]; simpa using h
theorem cmul_l (i j : Int) (h : 0 ≤ i) (h2 : i < 1000000) : cmulB i j = true := by
  unfold cmulB
  rw [Bool.or_eq_true]
  refine .inl ?_
  rw [decide_eq_true (by omega), decide_eq_true (by omega)]
  rfl
def lawP1 (fm : List T3.D → FR) : SX := sFor (iRange1 (vC (.int 3))) (gN [] 4) (sExpr (mMut "list" opAppend 3 (aCons (fz [] (callF false fm (aCons (fz [] (vName 1)) (aCons (fz [] (op2 pAdd (op2 pMul (vC (.int 5)) (vName 2)) (vName 4))) (aCons (fz [] (op2 pSub (vC (.int 8)) (opN pSum (aLast (vName 3))))) (aNil)))))) (aNil))))
theorem tyL (ds : List T3.D) : isTy "list" (.list ds) = true := rfl
theorem p1_ok {fm : List T3.D → FR} {dd : T3.D} {t a b c : Int} (h0 : fm [dd, .int (5 * t + 0), .int (8 - 0)] = .ok (.int a) none) (h1 : fm [dd, .int (5 * t + 1), .int (8 - a)] = .ok (.int b) none) (h2 : fm [dd, .int (5 * t + 2), .int (8 - (a + b))] = .ok (.int c) none) (sc x4 x5 x6 x7 x8 x9 x10 x11 : Slot) :
    lawP1 fm [sc, .fz dd, .fz (.int t), .ow (.list []), x4, x5, x6, x7, x8, x9, x10, x11] = .nx [sc, .fz dd, .fz (.int t), .ow (.list [.int a, .int b, .int c]), .fz (.int 2), x5, x6, x7, x8, x9, x10, x11] := by
  have r : fit62 3 = true := by decide
  have rr : rangeD 0 3 = [.int 0, .int 1, .int 2] := rfl
  have cm : cmulB 5 t = true := cmul_l 5 t (by decide) (by decide)
  have ll : ∀ k, k < 10 → (k < line) = True := fun k hk => eq_true (lt_line (by omega))
  refine for_ok (ds := [.int 0, .int 1, .int 2]) (e := [sc, .fz dd, .fz (.int t), .ow (.list []), x4, x5, x6, x7, x8, x9, x10, x11]) (by simp only [e_vName, e_vC, e_rd, e_fz, e_op1, e_op2, e_aNil, e_aCons, e_aLast, e_opN, e_dsp, e_opC, e_vOr, e_vAnd, e_vNot, e_vIf, e_tst, e_tru, e_tAnd, e_tOr, e_tNot, e_opMt, e_ptNone, e_ptSome, e_opSl, e_opSt, e_callF, e_callIo, e_mMut, e_vDict0, e_vDict, e_dCons, e_dNil, e_sNil, e_sSeq, e_sIf, e_sRet, e_sRetN, e_sExpr, e_sBk, e_sCt, e_sSet, e_slF, e_sAsg, e_sPut, e_iSeq, e_iRange1, e_iRange2, e_iEnum, e_tstYes, e_gN0, e_gT, e_gsNil, e_gsCons, e_eqI, fzR, Rv.get, getA, allFz, appO, Out.rv, List.getElem?_cons_zero, List.getElem?_cons_succ, List.set_cons_zero, List.set_cons_succ, Nat.reduceAdd, List.length_cons, List.length_nil, if_true, if_false, one, decide_true, decide_false, Bool.xor_false, Bool.false_xor, Bool.true_xor, Bool.not_true, Bool.not_false, oTup, oLst, splitL, List.cons_append, List.nil_append, e_gN, and_self, o_addI, o_subI, o_mulI, o_modI, o_neg, o_ltI, o_leI, o_gtI, o_geI, o_isN, o_nN, o_nB, o_nI, o_nS, o_nT, o_nL, o_nD, o_isB, o_itL, o_itT, o_listL, o_listT, o_tupL, o_tupT, o_lenL, o_lenT, o_lenS, o_abs, o_toInt, o_app, o_ixTn, o_ixLn, o_ixDct, o_inDct, o_setLn, o_setDct, o_sumL, o_sumT, o_ln0, o_ln1, o_ln2, o_ln3, o_ln4, o_ln5, o_ln6, o_ln7, o_ln8, o_ln9, o_ln10, o_ln11, o_ixT0, o_ixL0, o_setL0, o_ixT1, o_ixL1, o_setL1, o_ixT2, o_ixL2, o_setL2, o_ixT3, o_ixL3, o_setL3, o_ixT4, o_ixL4, o_setL4, o_ixT5, o_ixL5, o_setL5, o_ixT6, o_ixL6, o_setL6, o_ixT7, o_ixL7, o_setL7, o_ixT8, o_ixL8, o_setL8, o_ixT9, o_ixL9, o_setL9, o_divI, Option.map_some, Option.map_none, List.not_mem_nil, reduceIte, Bool.false_eq_true, List.mem_singleton, Nat.reduceLT, Nat.reduceLeDiff, Int.reduceLT, Int.reduceLE, Nat.reduceEqDiff, Int.reduceNeg, r, rr]) ?_
  simp only [e_vName, e_vC, e_rd, e_fz, e_op1, e_op2, e_aNil, e_aCons, e_aLast, e_opN, e_dsp, e_opC, e_vOr, e_vAnd, e_vNot, e_vIf, e_tst, e_tru, e_tAnd, e_tOr, e_tNot, e_opMt, e_ptNone, e_ptSome, e_opSl, e_opSt, e_callF, e_callIo, e_mMut, e_vDict0, e_vDict, e_dCons, e_dNil, e_sNil, e_sSeq, e_sIf, e_sRet, e_sRetN, e_sExpr, e_sBk, e_sCt, e_sSet, e_slF, e_sAsg, e_sPut, e_iSeq, e_iRange1, e_iRange2, e_iEnum, e_tstYes, e_gN0, e_gT, e_gsNil, e_gsCons, e_eqI, fzR, Rv.get, getA, allFz, appO, Out.rv, List.getElem?_cons_zero, List.getElem?_cons_succ, List.set_cons_zero, List.set_cons_succ, Nat.reduceAdd, List.length_cons, List.length_nil, if_true, if_false, one, decide_true, decide_false, Bool.xor_false, Bool.false_xor, Bool.true_xor, Bool.not_true, Bool.not_false, oTup, oLst, splitL, List.cons_append, List.nil_append, e_gN, and_self, o_addI, o_subI, o_mulI, o_modI, o_neg, o_ltI, o_leI, o_gtI, o_geI, o_isN, o_nN, o_nB, o_nI, o_nS, o_nT, o_nL, o_nD, o_isB, o_itL, o_itT, o_listL, o_listT, o_tupL, o_tupT, o_lenL, o_lenT, o_lenS, o_abs, o_toInt, o_app, o_ixTn, o_ixLn, o_ixDct, o_inDct, o_setLn, o_setDct, o_sumL, o_sumT, o_ln0, o_ln1, o_ln2, o_ln3, o_ln4, o_ln5, o_ln6, o_ln7, o_ln8, o_ln9, o_ln10, o_ln11, o_ixT0, o_ixL0, o_setL0, o_ixT1, o_ixL1, o_setL1, o_ixT2, o_ixL2, o_setL2, o_ixT3, o_ixL3, o_setL3, o_ixT4, o_ixL4, o_setL4, o_ixT5, o_ixL5, o_setL5, o_ixT6, o_ixL6, o_setL6, o_ixT7, o_ixL7, o_setL7, o_ixT8, o_ixL8, o_setL8, o_ixT9, o_ixL9, o_setL9, o_divI, Option.map_some, Option.map_none, List.not_mem_nil, reduceIte, Bool.false_eq_true, List.mem_singleton, Nat.reduceLT, Nat.reduceLeDiff, Int.reduceLT, Int.reduceLE, Nat.reduceEqDiff, Int.reduceNeg, e_flC, e_flN, cm, sm0, sm1, sm2, h0, h1, h2, tyL, ll 0 (by decide), ll 1 (by decide), ll 2 (by decide)]
def lawP2 (fm fc : List T3.D → FR) (rest : SX) : SX := sSeq (sSet [] 5 (callF false fm (aCons (fz [] (vName 1)) (aCons (fz [] (op2 pAdd (op2 pMul (vC (.int 5)) (vName 2)) (vC (.int 3)))) (aCons (fz [] (vC (.int 3))) (aNil))))))
    (sSeq (sSet [] 3 (opN (one pTuple) (aLast (op2 pAdd (opSl (vName 3) (ptSome (vName 5)) (ptNone)) (opSl (vName 3) (ptNone) (ptSome (vName 5)))))))
    (sSeq (sSet [] 6 (callF false fc (aCons (fz [] (vName 3)) (aNil)))) rest))
theorem p2_ok {fm fc : List T3.D → FR} {rest : SX} {o : O} {dd : T3.D} {kl l1 l2 l3 : List T3.D} {t k W : Int} (h0 : fm [dd, .int (5 * t + 3), .int 3] = .ok (.int k) none) (h1 : pSl (.list kl) (some k) none = some (.nl l1)) (h2 : pSl (.list kl) none (some k) = some (.nl l2)) (h3 : pAdd (.list l1) (.list l2) = some (.nl l3)) (h4 : fc [.tuple l3] = .ok (.int W) none) (sc x4 x5 x6 x7 x8 x9 x10 x11 : Slot)
    (h5 : rest [sc, .fz dd, .fz (.int t), .fz (.tuple l3), x4, .fz (.int k), .fz (.int W), x7, x8, x9, x10, x11] = o) :
    lawP2 fm fc rest [sc, .fz dd, .fz (.int t), .ow (.list kl), x4, x5, x6, x7, x8, x9, x10, x11] = o := by
  have cm : cmulB 5 t = true := cmul_l 5 t (by decide) (by decide)
  unfold lawP2
  simp only [e_vName, e_vC, e_rd, e_fz, e_op1, e_op2, e_aNil, e_aCons, e_aLast, e_opN, e_dsp, e_opC, e_vOr, e_vAnd, e_vNot, e_vIf, e_tst, e_tru, e_tAnd, e_tOr, e_tNot, e_opMt, e_ptNone, e_ptSome, e_opSl, e_opSt, e_callF, e_callIo, e_mMut, e_vDict0, e_vDict, e_dCons, e_dNil, e_sNil, e_sSeq, e_sIf, e_sRet, e_sRetN, e_sExpr, e_sBk, e_sCt, e_sSet, e_slF, e_sAsg, e_sPut, e_iSeq, e_iRange1, e_iRange2, e_iEnum, e_tstYes, e_gN0, e_gT, e_gsNil, e_gsCons, e_eqI, fzR, Rv.get, getA, allFz, appO, Out.rv, List.getElem?_cons_zero, List.getElem?_cons_succ, List.set_cons_zero, List.set_cons_succ, Nat.reduceAdd, List.length_cons, List.length_nil, if_true, if_false, one, decide_true, decide_false, Bool.xor_false, Bool.false_xor, Bool.true_xor, Bool.not_true, Bool.not_false, oTup, oLst, splitL, List.cons_append, List.nil_append, e_gN, and_self, o_addI, o_subI, o_mulI, o_modI, o_neg, o_ltI, o_leI, o_gtI, o_geI, o_isN, o_nN, o_nB, o_nI, o_nS, o_nT, o_nL, o_nD, o_isB, o_itL, o_itT, o_listL, o_listT, o_tupL, o_tupT, o_lenL, o_lenT, o_lenS, o_abs, o_toInt, o_app, o_ixTn, o_ixLn, o_ixDct, o_inDct, o_setLn, o_setDct, o_sumL, o_sumT, o_ln0, o_ln1, o_ln2, o_ln3, o_ln4, o_ln5, o_ln6, o_ln7, o_ln8, o_ln9, o_ln10, o_ln11, o_ixT0, o_ixL0, o_setL0, o_ixT1, o_ixL1, o_setL1, o_ixT2, o_ixL2, o_setL2, o_ixT3, o_ixL3, o_setL3, o_ixT4, o_ixL4, o_setL4, o_ixT5, o_ixL5, o_setL5, o_ixT6, o_ixL6, o_setL6, o_ixT7, o_ixL7, o_setL7, o_ixT8, o_ixL8, o_setL8, o_ixT9, o_ixL9, o_setL9, o_divI, Option.map_some, Option.map_none, List.not_mem_nil, reduceIte, Bool.false_eq_true, List.mem_singleton, Nat.reduceLT, Nat.reduceLeDiff, Int.reduceLT, Int.reduceLE, Nat.reduceEqDiff, Int.reduceNeg, cm, h0, h1, h2, h3, h4, h5]
def lawP3 (fc fl' : List T3.D → FR) (rest : SX) : SX := sSeq (sIf (tOr (tst (op2 (pEq true) (opN (one pReprI) (aLast (vName 6))) (opN (one pReprI) (aLast (callF false fl' (aCons (fz [] (vName 3)) (aNil))))))) (tst (op2 (pEq true) (callF false fc (aCons (fz [] (dsp oTup (aCons (op2 pIxA (vName 3) (vC (.int 0))) (aCons (op2 pIxA (vName 3) (vC (.int 2))) (aLast (op2 pIxA (vName 3) (vC (.int 1)))))))) (aNil))) (vName 6)))) (sRet (vC (.bool false))) (sNil)) rest
theorem p3_ok {fc fl' : List T3.D → FR} {rest : SX} {o : O} {b n q W : Int} {rs : Str} (h0 : fl' [.tuple [.int b, .int n, .int q]] = .ok (.int W) none) (h1 : fc [.tuple [.int b, .int q, .int n]] = .ok (.int W) none) (h2 : pReprI (.int W) = some (.fz (.str rs))) (h3 : pEq true (.str rs) (.str rs) = some (.fz (.bool false))) (s0 s1 s2 s4 s5 x7 x8 x9 x10 x11 : Slot)
    (h5 : rest [s0, s1, s2, .fz (.tuple [.int b, .int n, .int q]), s4, s5, .fz (.int W), x7, x8, x9, x10, x11] = o) :
    lawP3 fc fl' rest [s0, s1, s2, .fz (.tuple [.int b, .int n, .int q]), s4, s5, .fz (.int W), x7, x8, x9, x10, x11] = o := by
  unfold lawP3
  simp only [e_vName, e_vC, e_rd, e_fz, e_op1, e_op2, e_aNil, e_aCons, e_aLast, e_opN, e_dsp, e_opC, e_vOr, e_vAnd, e_vNot, e_vIf, e_tst, e_tru, e_tAnd, e_tOr, e_tNot, e_opMt, e_ptNone, e_ptSome, e_opSl, e_opSt, e_callF, e_callIo, e_mMut, e_vDict0, e_vDict, e_dCons, e_dNil, e_sNil, e_sSeq, e_sIf, e_sRet, e_sRetN, e_sExpr, e_sBk, e_sCt, e_sSet, e_slF, e_sAsg, e_sPut, e_iSeq, e_iRange1, e_iRange2, e_iEnum, e_tstYes, e_gN0, e_gT, e_gsNil, e_gsCons, e_eqI, fzR, Rv.get, getA, allFz, appO, Out.rv, List.getElem?_cons_zero, List.getElem?_cons_succ, List.set_cons_zero, List.set_cons_succ, Nat.reduceAdd, List.length_cons, List.length_nil, if_true, if_false, one, decide_true, decide_false, Bool.xor_false, Bool.false_xor, Bool.true_xor, Bool.not_true, Bool.not_false, oTup, oLst, splitL, List.cons_append, List.nil_append, e_gN, and_self, o_addI, o_subI, o_mulI, o_modI, o_neg, o_ltI, o_leI, o_gtI, o_geI, o_isN, o_nN, o_nB, o_nI, o_nS, o_nT, o_nL, o_nD, o_isB, o_itL, o_itT, o_listL, o_listT, o_tupL, o_tupT, o_lenL, o_lenT, o_lenS, o_abs, o_toInt, o_app, o_ixTn, o_ixLn, o_ixDct, o_inDct, o_setLn, o_setDct, o_sumL, o_sumT, o_ln0, o_ln1, o_ln2, o_ln3, o_ln4, o_ln5, o_ln6, o_ln7, o_ln8, o_ln9, o_ln10, o_ln11, o_ixT0, o_ixL0, o_setL0, o_ixT1, o_ixL1, o_setL1, o_ixT2, o_ixL2, o_setL2, o_ixT3, o_ixL3, o_setL3, o_ixT4, o_ixL4, o_setL4, o_ixT5, o_ixL5, o_setL5, o_ixT6, o_ixL6, o_setL6, o_ixT7, o_ixL7, o_setL7, o_ixT8, o_ixL8, o_setL8, o_ixT9, o_ixL9, o_setL9, o_divI, Option.map_some, Option.map_none, List.not_mem_nil, reduceIte, Bool.false_eq_true, List.mem_singleton, Nat.reduceLT, Nat.reduceLeDiff, Int.reduceLT, Int.reduceLE, Nat.reduceEqDiff, Int.reduceNeg, h0, h1, h2, h3, h5]
def lawP4 (fm fr ff fn : List T3.D → FR) : SX := sIf (tst (op2 pGt (vName 6) (vC (.int 0)))) (sSeq (sSet [] 7 (callF false fm (aCons (fz [] (vName 1)) (aCons (fz [] (op2 pAdd (vC (.int 40)) (vName 2))) (aCons (fz [] (vName 6)) (aNil))))))
    (sSeq (sSet [] 8 (callF false fr (aCons (fz [] (vName 3)) (aCons (fz [] (vName 7)) (aNil)))))
    (sSeq (sSet [] 9 (callF false fr (aCons (fz [] (vName 3)) (aCons (fz [] (op2 pSub (vName 6) (vC (.int 1)))) (aNil)))))
    (sSeq (sIf (tOr (tst (op2 (pIs true) (callF false ff (aCons (fz [] (vName 3)) (aCons (fz [] (vName 8)) (aNil)))) (vC (.bool true)))) (tOr (tst (op2 (pEq true) (callF false fn (aCons (fz [] (vName 3)) (aCons (fz [] (vName 8)) (aNil)))) (vName 7))) (tOr (tst (op2 pGt (callF false fr (aCons (fz [] (vName 3)) (aCons (fz [] (vC (.int 0))) (aNil)))) (vName 8))) (tst (op2 pGt (vName 8) (vName 9)))))) (sRet (vC (.bool false))) (sNil))
    (sSeq (sIf (tAnd (tst (op2 pLt (op2 pAdd (vName 7) (vC (.int 1))) (vName 6))) (tst (op2 pLe (callF false fr (aCons (fz [] (vName 3)) (aCons (fz [] (op2 pAdd (vName 7) (vC (.int 1)))) (aNil)))) (vName 8)))) (sRet (vC (.bool false))) (sNil))
    (sSeq (sSet [] 10 (callF false fn (aCons (fz [] (vName 3)) (aCons (fz [] (opSt (vName 8) (ptNone) (ptNone) (ptSome (op1 pNeg (vC (.int 1)))))) (aNil)))))
    (sIf (tOr (tst (op2 (pEq true) (callF false fr (aCons (fz [] (vName 3)) (aCons (fz [] (vName 10)) (aNil)))) (opSt (vName 8) (ptNone) (ptNone) (ptSome (op1 pNeg (vC (.int 1))))))) (tst (op2 (pEq true) (op2 (pEq false) (vName 10) (vName 7)) (op2 (pEq false) (vName 8) (opSt (vName 8) (ptNone) (ptNone) (ptSome (op1 pNeg (vC (.int 1))))))))) (sRet (vC (.bool false))) (sNil)))))))) (sNil)
theorem bb (b : Bool) : pEq true (.bool b) (.bool b) = some (.fz (.bool false)) := by cases b <;> rfl
theorem p4_ok {fm fr ff fn : List T3.D → FR} {dd kd : T3.D} {t W m back : Int} {row last r0 rv : Str} (hW : 0 < W) (h0 : fm [dd, .int (40 + t), .int W] = .ok (.int m) none) (h1 : fr [kd, .int m] = .ok (.str row) none) (h2 : fr [kd, .int (W - 1)] = .ok (.str last) none)
    (h3 : ff [kd, .str row] = .ok (.bool true) none) (h4 : fn [kd, .str row] = .ok (.int m) none) (h5 : fr [kd, .int 0] = .ok (.str r0) none) (h6 : pGt (.str r0) (.str row) = some (.fz (.bool false))) (h7 : pGt (.str row) (.str last) = some (.fz (.bool false)))
    (h8 : m + 1 < W → ∃ nx : Str, fr [kd, .int (m + 1)] = .ok (.str nx) none ∧ pLe (.str nx) (.str row) = some (.fz (.bool false))) (h9 : pStep (.str row) none none (-1) = some (.fz (.str rv))) (h10 : fn [kd, .str rv] = .ok (.int back) none) (h11 : fr [kd, .int back] = .ok (.str rv) none) (h12 : pEq true (.str rv) (.str rv) = some (.fz (.bool false)))
    (h13 : pEq false (.str row) (.str rv) = some (.fz (.bool (decide (back = m))))) (s0 s4 s5 x7 x8 x9 x10 x11 : Slot) :
    lawP4 fm fr ff fn [s0, .fz dd, .fz (.int t), .fz kd, s4, s5, .fz (.int W), x7, x8, x9, x10, x11] = .nx [s0, .fz dd, .fz (.int t), .fz kd, s4, s5, .fz (.int W), .fz (.int m), .fz (.str row), .fz (.str last), .fz (.int back), x11] := by
  have b1 : pEq true (.bool (decide (back = m))) (.bool (decide (back = m))) = some (.fz (.bool false)) := bb _
  have e1 : pEq false (.int back) (.int m) = some (.fz (.bool (decide (back = m)))) := (e_eqI false back m).trans (by rw [Bool.false_xor])
  have e2 : (m = m) = True := eq_true rfl
  generalize decide (back = m) = bo at *
  unfold lawP4
  by_cases c : m + 1 < W
  · obtain ⟨nx, g1, g2⟩ := h8 c
    simp only [e_vName, e_vC, e_rd, e_fz, e_op1, e_op2, e_aNil, e_aCons, e_aLast, e_opN, e_dsp, e_opC, e_vOr, e_vAnd, e_vNot, e_vIf, e_tst, e_tru, e_tAnd, e_tOr, e_tNot, e_opMt, e_ptNone, e_ptSome, e_opSl, e_opSt, e_callF, e_callIo, e_mMut, e_vDict0, e_vDict, e_dCons, e_dNil, e_sNil, e_sSeq, e_sIf, e_sRet, e_sRetN, e_sExpr, e_sBk, e_sCt, e_sSet, e_slF, e_sAsg, e_sPut, e_iSeq, e_iRange1, e_iRange2, e_iEnum, e_tstYes, e_gN0, e_gT, e_gsNil, e_gsCons, e_eqI, fzR, Rv.get, getA, allFz, appO, Out.rv, List.getElem?_cons_zero, List.getElem?_cons_succ, List.set_cons_zero, List.set_cons_succ, Nat.reduceAdd, List.length_cons, List.length_nil, if_true, if_false, one, decide_true, decide_false, Bool.xor_false, Bool.false_xor, Bool.true_xor, Bool.not_true, Bool.not_false, oTup, oLst, splitL, List.cons_append, List.nil_append, e_gN, and_self, o_addI, o_subI, o_mulI, o_modI, o_neg, o_ltI, o_leI, o_gtI, o_geI, o_isN, o_nN, o_nB, o_nI, o_nS, o_nT, o_nL, o_nD, o_isB, o_itL, o_itT, o_listL, o_listT, o_tupL, o_tupT, o_lenL, o_lenT, o_lenS, o_abs, o_toInt, o_app, o_ixTn, o_ixLn, o_ixDct, o_inDct, o_setLn, o_setDct, o_sumL, o_sumT, o_ln0, o_ln1, o_ln2, o_ln3, o_ln4, o_ln5, o_ln6, o_ln7, o_ln8, o_ln9, o_ln10, o_ln11, o_ixT0, o_ixL0, o_setL0, o_ixT1, o_ixL1, o_setL1, o_ixT2, o_ixL2, o_setL2, o_ixT3, o_ixL3, o_setL3, o_ixT4, o_ixL4, o_setL4, o_ixT5, o_ixL5, o_setL5, o_ixT6, o_ixL6, o_setL6, o_ixT7, o_ixL7, o_setL7, o_ixT8, o_ixL8, o_setL8, o_ixT9, o_ixL9, o_setL9, o_divI, Option.map_some, Option.map_none, List.not_mem_nil, reduceIte, Bool.false_eq_true, List.mem_singleton, Nat.reduceLT, Nat.reduceLeDiff, Int.reduceLT, Int.reduceLE, Nat.reduceEqDiff, Int.reduceNeg, hW, h0, h1, h2, h3, h4, h5, h6, h7, c, g1, g2, h9, h10, h11, h12, h13, e1, b1, e2]
  · simp only [e_vName, e_vC, e_rd, e_fz, e_op1, e_op2, e_aNil, e_aCons, e_aLast, e_opN, e_dsp, e_opC, e_vOr, e_vAnd, e_vNot, e_vIf, e_tst, e_tru, e_tAnd, e_tOr, e_tNot, e_opMt, e_ptNone, e_ptSome, e_opSl, e_opSt, e_callF, e_callIo, e_mMut, e_vDict0, e_vDict, e_dCons, e_dNil, e_sNil, e_sSeq, e_sIf, e_sRet, e_sRetN, e_sExpr, e_sBk, e_sCt, e_sSet, e_slF, e_sAsg, e_sPut, e_iSeq, e_iRange1, e_iRange2, e_iEnum, e_tstYes, e_gN0, e_gT, e_gsNil, e_gsCons, e_eqI, fzR, Rv.get, getA, allFz, appO, Out.rv, List.getElem?_cons_zero, List.getElem?_cons_succ, List.set_cons_zero, List.set_cons_succ, Nat.reduceAdd, List.length_cons, List.length_nil, if_true, if_false, one, decide_true, decide_false, Bool.xor_false, Bool.false_xor, Bool.true_xor, Bool.not_true, Bool.not_false, oTup, oLst, splitL, List.cons_append, List.nil_append, e_gN, and_self, o_addI, o_subI, o_mulI, o_modI, o_neg, o_ltI, o_leI, o_gtI, o_geI, o_isN, o_nN, o_nB, o_nI, o_nS, o_nT, o_nL, o_nD, o_isB, o_itL, o_itT, o_listL, o_listT, o_tupL, o_tupT, o_lenL, o_lenT, o_lenS, o_abs, o_toInt, o_app, o_ixTn, o_ixLn, o_ixDct, o_inDct, o_setLn, o_setDct, o_sumL, o_sumT, o_ln0, o_ln1, o_ln2, o_ln3, o_ln4, o_ln5, o_ln6, o_ln7, o_ln8, o_ln9, o_ln10, o_ln11, o_ixT0, o_ixL0, o_setL0, o_ixT1, o_ixL1, o_setL1, o_ixT2, o_ixL2, o_setL2, o_ixT3, o_ixL3, o_setL3, o_ixT4, o_ixL4, o_setL4, o_ixT5, o_ixL5, o_setL5, o_ixT6, o_ixL6, o_setL6, o_ixT7, o_ixL7, o_setL7, o_ixT8, o_ixL8, o_setL8, o_ixT9, o_ixL9, o_setL9, o_divI, Option.map_some, Option.map_none, List.not_mem_nil, reduceIte, Bool.false_eq_true, List.mem_singleton, Nat.reduceLT, Nat.reduceLeDiff, Int.reduceLT, Int.reduceLE, Nat.reduceEqDiff, Int.reduceNeg, hW, h0, h1, h2, h3, h4, h5, h6, h7, c, h9, h10, h11, h12, h13, e1, b1, e2]
def lawP5a : SX := sIf (tOr (tst (op2 (pEq true) (vName 8) (opSt (vName 8) (ptNone) (ptNone) (ptSome (op1 pNeg (vC (.int 1))))))) (tOr (tst (op2 (pEq true) (opN (one pLen) (aLast (vName 8))) (op2 pAdd (opN pSum (aLast (vName 3))) (vC (.int 3))))) (tOr (tst (op2 (pEq true) (op2 pMod (opN (one pToInt) (aLast (opN (one pLen) (aLast (vName 8))))) (vC (.int 2))) (vC (.int 1)))) (tst (op2 (pEq true) (op2 pIxA (vName 8) (op2 pDiv (opN (one pLen) (aLast (vName 8))) (vC (.int 2)))) (vC (.str "K"))))))) (sRet (vC (.bool false))) (sNil)
theorem p5a_ok {kd : T3.D} {S : Int} {x rv kk : Str} (h0 : pStep (.str x) none none (-1) = some (.fz (.str rv))) (h1 : pEq true (.str x) (.str rv) = some (.fz (.bool false))) (h2 : (x.length ≤ line) = True) (h3 : pSum [kd] = some (.fz (.int S))) (h4 : ((x.length : Int) = S + 3) = True) (h5 : ((x.length : Int) % 2 = 1) = True) (h6 : pIxA (.str x) (.int ((x.length : Int) / 2)) = some (.fz (.str kk))) (h7 : pEq true (.str kk) (.str "K") = some (.fz (.bool false))) (s0 s1 s2 s4 s5 s6 s7 s9 s10 s11 : Slot) :
    lawP5a [s0, s1, s2, .fz kd, s4, s5, s6, s7, .fz (.str x), s9, s10, s11] = .nx [s0, s1, s2, .fz kd, s4, s5, s6, s7, .fz (.str x), s9, s10, s11] := by
  have d2 : (0 : Int) < 2 ∧ (2 : Int) < 1073741824 := by decide
  unfold lawP5a
  generalize hk : ("K" : Str) = K at h7
  simp only [e_vName, e_vC, e_rd, e_fz, e_op1, e_op2, e_aNil, e_aCons, e_aLast, e_opN, e_dsp, e_opC, e_vOr, e_vAnd, e_vNot, e_vIf, e_tst, e_tru, e_tAnd, e_tOr, e_tNot, e_opMt, e_ptNone, e_ptSome, e_opSl, e_opSt, e_callF, e_callIo, e_mMut, e_vDict0, e_vDict, e_dCons, e_dNil, e_sNil, e_sSeq, e_sIf, e_sRet, e_sRetN, e_sExpr, e_sBk, e_sCt, e_sSet, e_slF, e_sAsg, e_sPut, e_iSeq, e_iRange1, e_iRange2, e_iEnum, e_tstYes, e_gN0, e_gT, e_gsNil, e_gsCons, e_eqI, fzR, Rv.get, getA, allFz, appO, Out.rv, List.getElem?_cons_zero, List.getElem?_cons_succ, List.set_cons_zero, List.set_cons_succ, Nat.reduceAdd, List.length_cons, List.length_nil, if_true, if_false, one, decide_true, decide_false, Bool.xor_false, Bool.false_xor, Bool.true_xor, Bool.not_true, Bool.not_false, oTup, oLst, splitL, List.cons_append, List.nil_append, e_gN, and_self, o_addI, o_subI, o_mulI, o_modI, o_neg, o_ltI, o_leI, o_gtI, o_geI, o_isN, o_nN, o_nB, o_nI, o_nS, o_nT, o_nL, o_nD, o_isB, o_itL, o_itT, o_listL, o_listT, o_tupL, o_tupT, o_lenL, o_lenT, o_lenS, o_abs, o_toInt, o_app, o_ixTn, o_ixLn, o_ixDct, o_inDct, o_setLn, o_setDct, o_sumL, o_sumT, o_ln0, o_ln1, o_ln2, o_ln3, o_ln4, o_ln5, o_ln6, o_ln7, o_ln8, o_ln9, o_ln10, o_ln11, o_ixT0, o_ixL0, o_setL0, o_ixT1, o_ixL1, o_setL1, o_ixT2, o_ixL2, o_setL2, o_ixT3, o_ixL3, o_setL3, o_ixT4, o_ixL4, o_setL4, o_ixT5, o_ixL5, o_setL5, o_ixT6, o_ixL6, o_setL6, o_ixT7, o_ixL7, o_setL7, o_ixT8, o_ixL8, o_setL8, o_ixT9, o_ixL9, o_setL9, o_divI, Option.map_some, Option.map_none, List.not_mem_nil, reduceIte, Bool.false_eq_true, List.mem_singleton, Nat.reduceLT, Nat.reduceLeDiff, Int.reduceLT, Int.reduceLE, Nat.reduceEqDiff, Int.reduceNeg, h0, h1, h2, h3, h4, h5, h6, h7, d2.1, d2.2]
def lawP5 (fo : List T3.D → FR) : SX := sIf (tst (op2 pLt (opN pSum (aLast (vName 3))) (vC (.int 4)))) (sSeq (sSet [] 11 (callF false fo (aCons (fz [] (vName 3)) (aNil))))
    (sSeq (sFor (iSeq [] (vName 11)) (gN [] 8) lawP5a)
    (sIf (tst (op2 (pEq true) (op2 pMod (opN (one pToInt) (aLast (op2 pSub (vName 6) (opN (one pLen) (aLast (vName 11)))))) (vC (.int 2))) (vC (.int 0)))) (sRet (vC (.bool false))) (sNil)))) (sNil)
theorem p5_ok {fo : List T3.D → FR} {kd : T3.D} {S W : Int} {xs : List Str} (h0 : pSum [kd] = some (.fz (.int S))) (h1 : S < 4 → fo [kd] = .ok (.list (xs.map .str)) none ∧ ((W - (xs.length : Int)) % 2 = 0) ∧ ∀ x ∈ xs, ∃ (rv kk : Str), pStep (.str x) none none (-1) = some (.fz (.str rv)) ∧ pEq true (.str x) (.str rv) = some (.fz (.bool false)) ∧ x.length ≤ line ∧ (x.length : Int) = S + 3 ∧ (x.length : Int) % 2 = 1 ∧ pIxA (.str x) (.int ((x.length : Int) / 2)) = some (.fz (.str kk)) ∧ pEq true (.str kk) (.str "K") = some (.fz (.bool false)))
    (s0 s1 s2 s4 s5 s7 s8 s9 s10 s11 : Slot) : ∃ y8 y11 : Slot, lawP5 fo [s0, s1, s2, .fz kd, s4, s5, .fz (.int W), s7, s8, s9, s10, s11] = .nx [s0, s1, s2, .fz kd, s4, s5, .fz (.int W), s7, y8, s9, s10, y11] := by
  by_cases c : S < 4
  · obtain ⟨g1, g2, g3⟩ := h1 c
    obtain ⟨e', f1, y8, rfl⟩ := fl_inv (g := gN [] 8) (body := lawP5a) (fun e => ∃ y8 : Slot, e = [s0, s1, s2, .fz kd, s4, s5, .fz (.int W), s7, y8, s9, s10, .fz (.list (xs.map .str))]) (xs.map .str) _ ⟨s8, rfl⟩ fun d hd e ⟨y, hy⟩ => by
      subst hy
      obtain ⟨x, hx, rfl⟩ := List.mem_map.mp hd
      obtain ⟨rv, kk, a1, a2, a3, a4, a5, a6, a7⟩ := g3 x hx
      exact ⟨_, _, rfl, p5a_ok a1 a2 (eq_true a3) h0 (eq_true a4) (eq_true a5) a6 a7 _ _ _ _ _ _ _ _ _ _, _, rfl⟩
    refine ⟨y8, .fz (.list (xs.map .str)), ?_⟩
    have it : itemsOf (.list (xs.map .str)) = some (xs.map .str) := rfl
    have ln : pLen (.list (xs.map .str)) = some (.fz (.int (xs.length : Int))) := by rw [o_lenL, List.length_map]
    generalize (PyData.list (xs.map .str) : T3.D) = L at *
    have e3 : sFor (iSeq [] (vName 11)) (gN [] 8) lawP5a [s0, s1, s2, .fz kd, s4, s5, .fz (.int W), s7, s8, s9, s10, .fz L] = _ := for_ok (by simp only [e_vName, e_vC, e_rd, e_fz, e_op1, e_op2, e_aNil, e_aCons, e_aLast, e_opN, e_dsp, e_opC, e_vOr, e_vAnd, e_vNot, e_vIf, e_tst, e_tru, e_tAnd, e_tOr, e_tNot, e_opMt, e_ptNone, e_ptSome, e_opSl, e_opSt, e_callF, e_callIo, e_mMut, e_vDict0, e_vDict, e_dCons, e_dNil, e_sNil, e_sSeq, e_sIf, e_sRet, e_sRetN, e_sExpr, e_sBk, e_sCt, e_sSet, e_slF, e_sAsg, e_sPut, e_iSeq, e_iRange1, e_iRange2, e_iEnum, e_tstYes, e_gN0, e_gT, e_gsNil, e_gsCons, e_eqI, fzR, Rv.get, getA, allFz, appO, Out.rv, List.getElem?_cons_zero, List.getElem?_cons_succ, List.set_cons_zero, List.set_cons_succ, Nat.reduceAdd, List.length_cons, List.length_nil, if_true, if_false, one, decide_true, decide_false, Bool.xor_false, Bool.false_xor, Bool.true_xor, Bool.not_true, Bool.not_false, oTup, oLst, splitL, List.cons_append, List.nil_append, e_gN, and_self, o_addI, o_subI, o_mulI, o_modI, o_neg, o_ltI, o_leI, o_gtI, o_geI, o_isN, o_nN, o_nB, o_nI, o_nS, o_nT, o_nL, o_nD, o_isB, o_itL, o_itT, o_listL, o_listT, o_tupL, o_tupT, o_lenL, o_lenT, o_lenS, o_abs, o_toInt, o_app, o_ixTn, o_ixLn, o_ixDct, o_inDct, o_setLn, o_setDct, o_sumL, o_sumT, o_ln0, o_ln1, o_ln2, o_ln3, o_ln4, o_ln5, o_ln6, o_ln7, o_ln8, o_ln9, o_ln10, o_ln11, o_ixT0, o_ixL0, o_setL0, o_ixT1, o_ixL1, o_setL1, o_ixT2, o_ixL2, o_setL2, o_ixT3, o_ixL3, o_setL3, o_ixT4, o_ixL4, o_setL4, o_ixT5, o_ixL5, o_setL5, o_ixT6, o_ixL6, o_setL6, o_ixT7, o_ixL7, o_setL7, o_ixT8, o_ixL8, o_setL8, o_ixT9, o_ixL9, o_setL9, o_divI, Option.map_some, Option.map_none, List.not_mem_nil, reduceIte, Bool.false_eq_true, List.mem_singleton, Nat.reduceLT, Nat.reduceLeDiff, Int.reduceLT, Int.reduceLE, Nat.reduceEqDiff, Int.reduceNeg, it]) f1
    unfold lawP5
    generalize sFor (iSeq [] (vName 11)) (gN [] 8) lawP5a = lp at *
    simp only [e_vName, e_vC, e_rd, e_fz, e_op1, e_op2, e_aNil, e_aCons, e_aLast, e_opN, e_dsp, e_opC, e_vOr, e_vAnd, e_vNot, e_vIf, e_tst, e_tru, e_tAnd, e_tOr, e_tNot, e_opMt, e_ptNone, e_ptSome, e_opSl, e_opSt, e_callF, e_callIo, e_mMut, e_vDict0, e_vDict, e_dCons, e_dNil, e_sNil, e_sSeq, e_sIf, e_sRet, e_sRetN, e_sExpr, e_sBk, e_sCt, e_sSet, e_slF, e_sAsg, e_sPut, e_iSeq, e_iRange1, e_iRange2, e_iEnum, e_tstYes, e_gN0, e_gT, e_gsNil, e_gsCons, e_eqI, fzR, Rv.get, getA, allFz, appO, Out.rv, List.getElem?_cons_zero, List.getElem?_cons_succ, List.set_cons_zero, List.set_cons_succ, Nat.reduceAdd, List.length_cons, List.length_nil, if_true, if_false, one, decide_true, decide_false, Bool.xor_false, Bool.false_xor, Bool.true_xor, Bool.not_true, Bool.not_false, oTup, oLst, splitL, List.cons_append, List.nil_append, e_gN, and_self, o_addI, o_subI, o_mulI, o_modI, o_neg, o_ltI, o_leI, o_gtI, o_geI, o_isN, o_nN, o_nB, o_nI, o_nS, o_nT, o_nL, o_nD, o_isB, o_itL, o_itT, o_listL, o_listT, o_tupL, o_tupT, o_lenL, o_lenT, o_lenS, o_abs, o_toInt, o_app, o_ixTn, o_ixLn, o_ixDct, o_inDct, o_setLn, o_setDct, o_sumL, o_sumT, o_ln0, o_ln1, o_ln2, o_ln3, o_ln4, o_ln5, o_ln6, o_ln7, o_ln8, o_ln9, o_ln10, o_ln11, o_ixT0, o_ixL0, o_setL0, o_ixT1, o_ixL1, o_setL1, o_ixT2, o_ixL2, o_setL2, o_ixT3, o_ixL3, o_setL3, o_ixT4, o_ixL4, o_setL4, o_ixT5, o_ixL5, o_setL5, o_ixT6, o_ixL6, o_setL6, o_ixT7, o_ixL7, o_setL7, o_ixT8, o_ixL8, o_setL8, o_ixT9, o_ixL9, o_setL9, o_divI, Option.map_some, Option.map_none, List.not_mem_nil, reduceIte, Bool.false_eq_true, List.mem_singleton, Nat.reduceLT, Nat.reduceLeDiff, Int.reduceLT, Int.reduceLE, Nat.reduceEqDiff, Int.reduceNeg, h0, c, g1, e3, ln, g2]
  · refine ⟨s8, s11, ?_⟩
    unfold lawP5
    generalize sFor (iSeq [] (vName 11)) (gN [] 8) lawP5a = lp at *
    simp only [e_vName, e_vC, e_rd, e_fz, e_op1, e_op2, e_aNil, e_aCons, e_aLast, e_opN, e_dsp, e_opC, e_vOr, e_vAnd, e_vNot, e_vIf, e_tst, e_tru, e_tAnd, e_tOr, e_tNot, e_opMt, e_ptNone, e_ptSome, e_opSl, e_opSt, e_callF, e_callIo, e_mMut, e_vDict0, e_vDict, e_dCons, e_dNil, e_sNil, e_sSeq, e_sIf, e_sRet, e_sRetN, e_sExpr, e_sBk, e_sCt, e_sSet, e_slF, e_sAsg, e_sPut, e_iSeq, e_iRange1, e_iRange2, e_iEnum, e_tstYes, e_gN0, e_gT, e_gsNil, e_gsCons, e_eqI, fzR, Rv.get, getA, allFz, appO, Out.rv, List.getElem?_cons_zero, List.getElem?_cons_succ, List.set_cons_zero, List.set_cons_succ, Nat.reduceAdd, List.length_cons, List.length_nil, if_true, if_false, one, decide_true, decide_false, Bool.xor_false, Bool.false_xor, Bool.true_xor, Bool.not_true, Bool.not_false, oTup, oLst, splitL, List.cons_append, List.nil_append, e_gN, and_self, o_addI, o_subI, o_mulI, o_modI, o_neg, o_ltI, o_leI, o_gtI, o_geI, o_isN, o_nN, o_nB, o_nI, o_nS, o_nT, o_nL, o_nD, o_isB, o_itL, o_itT, o_listL, o_listT, o_tupL, o_tupT, o_lenL, o_lenT, o_lenS, o_abs, o_toInt, o_app, o_ixTn, o_ixLn, o_ixDct, o_inDct, o_setLn, o_setDct, o_sumL, o_sumT, o_ln0, o_ln1, o_ln2, o_ln3, o_ln4, o_ln5, o_ln6, o_ln7, o_ln8, o_ln9, o_ln10, o_ln11, o_ixT0, o_ixL0, o_setL0, o_ixT1, o_ixL1, o_setL1, o_ixT2, o_ixL2, o_setL2, o_ixT3, o_ixL3, o_setL3, o_ixT4, o_ixL4, o_setL4, o_ixT5, o_ixL5, o_setL5, o_ixT6, o_ixL6, o_setL6, o_ixT7, o_ixL7, o_setL7, o_ixT8, o_ixL8, o_setL8, o_ixT9, o_ixL9, o_setL9, o_divI, Option.map_some, Option.map_none, List.not_mem_nil, reduceIte, Bool.false_eq_true, List.mem_singleton, Nat.reduceLT, Nat.reduceLeDiff, Int.reduceLT, Int.reduceLE, Nat.reduceEqDiff, Int.reduceNeg, h0, c]
def lawT (fm fc fl' fr ff fn fo : List T3.D → FR) : SX := sSeq (sSet [] 3 (dsp oLst (aNil))) (sSeq (lawP1 fm) (lawP2 fm fc (lawP3 fc fl' (sSeq (lawP4 fm fr ff fn) (lawP5 fo)))))
def lawB (fd fm fc fl' fr ff fn fo : List T3.D → FR) : SX := sSeq (sSet [] 1 (callF false fd (aCons (fz [] (vName 0)) (aNil))))
    (sSeq (sFor (iRange1 (vC (.int 6))) (gN [] 2) (lawT fm fc fl' fr ff fn fo))
    (sRet (vAnd [] (op2 (pEq false) (callF false fc (aCons (fz [] (dsp oTup (aCons (vC (.int 0)) (aCons (vC (.int 0)) (aLast (vC (.int 0))))))) (aNil))) (vC (.int 1))) (op2 (pEq false) (callF false fr (aCons (fz [] (dsp oTup (aCons (vC (.int 0)) (aCons (vC (.int 0)) (aLast (vC (.int 0))))))) (aCons (fz [] (vC (.int 0))) (aNil)))) (vC (.str "RKR"))))))
theorem lawB_eq : B_law = lawB F__law_draws F__law_mix F_count F__law_count F_row_of F_fits F_number_of F_own_mirrored := rfl
theorem lawB_ok {fd fm fc fl' fr ff fn fo : List T3.D → FR} {sd dd : T3.D} (h0 : fd [sd] = .ok dd none) (hT : ∀ t : Nat, t < 6 → ∀ x3 x4 x5 x6 x7 x8 x9 x10 x11 : Slot, ∃ y3 y4 y5 y6 y7 y8 y9 y10 y11 : Slot, lawT fm fc fl' fr ff fn fo [.fz sd, .fz dd, .fz (.int (t : Int)), x3, x4, x5, x6, x7, x8, x9, x10, x11] = .nx [.fz sd, .fz dd, .fz (.int (t : Int)), y3, y4, y5, y6, y7, y8, y9, y10, y11])
    (h1 : fc [.tuple [.int 0, .int 0, .int 0]] = .ok (.int 1) none) (h2 : fr [.tuple [.int 0, .int 0, .int 0], .int 0] = .ok (.str "RKR") none) :
    mkFn 1 12 false false (lawB fd fm fc fl' fr ff fn fo) [sd] = .ok (.bool true) none := by
  have r : fit62 6 = true := by decide
  have rs : pEq false (.str "RKR") (.str "RKR") = some (.fz (.bool true)) := by kernel_rfl
  obtain ⟨e', f1, x2, x3, x4, x5, x6, x7, x8, x9, x10, x11, rfl⟩ := fl_inv (g := gN [] 2) (body := lawT fm fc fl' fr ff fn fo) (fun e => ∃ x2 x3 x4 x5 x6 x7 x8 x9 x10 x11 : Slot, e = [.fz sd, .fz dd, x2, x3, x4, x5, x6, x7, x8, x9, x10, x11]) (rangeD 0 ((6 : Nat) : Int)) [.fz sd, .fz dd, .non, .non, .non, .non, .non, .non, .non, .non, .non, .non] ⟨_, _, _, _, _, _, _, _, _, _, rfl⟩ fun d hd e ⟨x2, x3, x4, x5, x6, x7, x8, x9, x10, x11, he⟩ => by
    subst he
    rw [range_enc] at hd
    obtain ⟨t, ht, rfl⟩ := List.mem_map.mp hd
    obtain ⟨y3, y4, y5, y6, y7, y8, y9, y10, y11, h⟩ := hT t (List.mem_range.mp ht) x3 x4 x5 x6 x7 x8 x9 x10 x11
    exact ⟨_, _, rfl, h, _, _, _, _, _, _, _, _, _, _, rfl⟩
  have e3 : sFor (iRange1 (vC (.int 6))) (gN [] 2) (lawT fm fc fl' fr ff fn fo) [.fz sd, .fz dd, .non, .non, .non, .non, .non, .non, .non, .non, .non, .non] = _ := for_ok (ds := rangeD 0 ((6 : Nat) : Int)) (by simp only [e_vName, e_vC, e_rd, e_fz, e_op1, e_op2, e_aNil, e_aCons, e_aLast, e_opN, e_dsp, e_opC, e_vOr, e_vAnd, e_vNot, e_vIf, e_tst, e_tru, e_tAnd, e_tOr, e_tNot, e_opMt, e_ptNone, e_ptSome, e_opSl, e_opSt, e_callF, e_callIo, e_mMut, e_vDict0, e_vDict, e_dCons, e_dNil, e_sNil, e_sSeq, e_sIf, e_sRet, e_sRetN, e_sExpr, e_sBk, e_sCt, e_sSet, e_slF, e_sAsg, e_sPut, e_iSeq, e_iRange1, e_iRange2, e_iEnum, e_tstYes, e_gN0, e_gT, e_gsNil, e_gsCons, e_eqI, fzR, Rv.get, getA, allFz, appO, Out.rv, List.getElem?_cons_zero, List.getElem?_cons_succ, List.set_cons_zero, List.set_cons_succ, Nat.reduceAdd, List.length_cons, List.length_nil, if_true, if_false, one, decide_true, decide_false, Bool.xor_false, Bool.false_xor, Bool.true_xor, Bool.not_true, Bool.not_false, oTup, oLst, splitL, List.cons_append, List.nil_append, e_gN, and_self, o_addI, o_subI, o_mulI, o_modI, o_neg, o_ltI, o_leI, o_gtI, o_geI, o_isN, o_nN, o_nB, o_nI, o_nS, o_nT, o_nL, o_nD, o_isB, o_itL, o_itT, o_listL, o_listT, o_tupL, o_tupT, o_lenL, o_lenT, o_lenS, o_abs, o_toInt, o_app, o_ixTn, o_ixLn, o_ixDct, o_inDct, o_setLn, o_setDct, o_sumL, o_sumT, o_ln0, o_ln1, o_ln2, o_ln3, o_ln4, o_ln5, o_ln6, o_ln7, o_ln8, o_ln9, o_ln10, o_ln11, o_ixT0, o_ixL0, o_setL0, o_ixT1, o_ixL1, o_setL1, o_ixT2, o_ixL2, o_setL2, o_ixT3, o_ixL3, o_setL3, o_ixT4, o_ixL4, o_setL4, o_ixT5, o_ixL5, o_setL5, o_ixT6, o_ixL6, o_setL6, o_ixT7, o_ixL7, o_setL7, o_ixT8, o_ixL8, o_setL8, o_ixT9, o_ixL9, o_setL9, o_divI, Option.map_some, Option.map_none, List.not_mem_nil, reduceIte, Bool.false_eq_true, List.mem_singleton, Nat.reduceLT, Nat.reduceLeDiff, Int.reduceLT, Int.reduceLE, Nat.reduceEqDiff, Int.reduceNeg, r]; rfl) f1
  unfold lawB
  generalize sFor (iRange1 (vC (.int 6))) (gN [] 2) (lawT fm fc fl' fr ff fn fo) = lp at *
  generalize hs : ("RKR" : Str) = RS at *
  have t : ∃ e, (sSeq (sSet [] 1 (callF false fd (aCons (fz [] (vName 0)) (aNil)))) (sSeq lp (sRet (vAnd [] (op2 (pEq false) (callF false fc (aCons (fz [] (dsp oTup (aCons (vC (.int 0)) (aCons (vC (.int 0)) (aLast (vC (.int 0))))))) (aNil))) (vC (.int 1))) (op2 (pEq false) (callF false fr (aCons (fz [] (dsp oTup (aCons (vC (.int 0)) (aCons (vC (.int 0)) (aLast (vC (.int 0))))))) (aCons (fz [] (vC (.int 0))) (aNil)))) (vC (.str RS))))))) [.fz sd, .non, .non, .non, .non, .non, .non, .non, .non, .non, .non, .non] = .rt (.fz (.bool true)) e := by
    refine ⟨[.fz sd, .fz dd, x2, x3, x4, x5, x6, x7, x8, x9, x10, x11], ?_⟩
    simp only [e_vName, e_vC, e_rd, e_fz, e_op1, e_op2, e_aNil, e_aCons, e_aLast, e_opN, e_dsp, e_opC, e_vOr, e_vAnd, e_vNot, e_vIf, e_tst, e_tru, e_tAnd, e_tOr, e_tNot, e_opMt, e_ptNone, e_ptSome, e_opSl, e_opSt, e_callF, e_callIo, e_mMut, e_vDict0, e_vDict, e_dCons, e_dNil, e_sNil, e_sSeq, e_sIf, e_sRet, e_sRetN, e_sExpr, e_sBk, e_sCt, e_sSet, e_slF, e_sAsg, e_sPut, e_iSeq, e_iRange1, e_iRange2, e_iEnum, e_tstYes, e_gN0, e_gT, e_gsNil, e_gsCons, e_eqI, fzR, Rv.get, getA, allFz, appO, Out.rv, List.getElem?_cons_zero, List.getElem?_cons_succ, List.set_cons_zero, List.set_cons_succ, Nat.reduceAdd, List.length_cons, List.length_nil, if_true, if_false, one, decide_true, decide_false, Bool.xor_false, Bool.false_xor, Bool.true_xor, Bool.not_true, Bool.not_false, oTup, oLst, splitL, List.cons_append, List.nil_append, e_gN, and_self, o_addI, o_subI, o_mulI, o_modI, o_neg, o_ltI, o_leI, o_gtI, o_geI, o_isN, o_nN, o_nB, o_nI, o_nS, o_nT, o_nL, o_nD, o_isB, o_itL, o_itT, o_listL, o_listT, o_tupL, o_tupT, o_lenL, o_lenT, o_lenS, o_abs, o_toInt, o_app, o_ixTn, o_ixLn, o_ixDct, o_inDct, o_setLn, o_setDct, o_sumL, o_sumT, o_ln0, o_ln1, o_ln2, o_ln3, o_ln4, o_ln5, o_ln6, o_ln7, o_ln8, o_ln9, o_ln10, o_ln11, o_ixT0, o_ixL0, o_setL0, o_ixT1, o_ixL1, o_setL1, o_ixT2, o_ixL2, o_setL2, o_ixT3, o_ixL3, o_setL3, o_ixT4, o_ixL4, o_setL4, o_ixT5, o_ixL5, o_setL5, o_ixT6, o_ixL6, o_setL6, o_ixT7, o_ixL7, o_setL7, o_ixT8, o_ixL8, o_setL8, o_ixT9, o_ixL9, o_setL9, o_divI, Option.map_some, Option.map_none, List.not_mem_nil, reduceIte, Bool.false_eq_true, List.mem_singleton, Nat.reduceLT, Nat.reduceLeDiff, Int.reduceLT, Int.reduceLE, Nat.reduceEqDiff, Int.reduceNeg, h0, e3, h1, h2, rs, o_truB]
  obtain ⟨e, t⟩ := t
  unfold mkFn
  rw [if_pos ⟨rfl, fun h => by cases h⟩]
  exact congrArg (T3.finish false false 0) t
end K77
end

section
set_option autoImplicit false
namespace K77
open PySem PySem.Spec PyProof.Rows L2 T3
/-! ### texts again -/
theorem strOk_of (s : String) : PyData.canLay0 (.str (Str.ofString s)) = true := by
  have e : PyData.canLay0 (.str (Str.ofString s)) = PyData.strOk (Str.ofString s) := by unfold PyData.canLay0; rfl
  rw [e, Str.ofString_eq_toList]
  unfold PyData.strOk
  rw [List.all_toArray, List.all_map, List.all_eq_true]
  intro c _
  show decide (c.toNat < 0x110000) = true
  refine decide_eq_true ?_
  have := c.valid
  show c.val.toNat < 0x110000
  rcases this with h | h
  · have h : c.val.toNat < 0xd800 := h
    omega
  · exact h.2
theorem shaped_of {x : Str} (h : PyData.canLay0 (.str x) = true) : SeqAt.shaped (.str x) = true := by
  unfold SeqAt.shaped
  rw [h, Bool.true_and]
  refine decide_eq_true ?_
  have : PyData.depth (.str x) = 0 := by unfold PyData.depth; rfl
  omega
theorem cd_lt : ∀ i, cd i < 100
  | 0 => by decide
  | 1 => by decide
  | 2 => by decide
  | 3 => by decide
  | _ + 4 => by show 82 < 100; decide
theorem shaped_txt (l : List Nat) : SeqAt.shaped (.str (txt l)) = true := by
  refine shaped_of ?_
  have e : PyData.canLay0 (.str (txt l)) = PyData.strOk (txt l) := by unfold PyData.canLay0; rfl
  rw [e]
  unfold PyData.strOk txt
  rw [List.all_toArray, List.all_map, List.all_eq_true]
  intro i _
  show decide (cd i < 0x110000) = true
  have := cd_lt i
  exact decide_eq_true (by omega)
theorem txt_inj {l m : List Nat} (hl : Sgs l) (hm : Sgs m) (h : txt l = txt m) : l = m := by
  have e : (txt l).cps.toList = (txt m).cps.toList := by rw [h]
  rw [txt_cps, txt_cps] at e
  clear h
  induction l generalizing m with
  | nil =>
    cases m with
    | nil => rfl
    | cons a m => cases e
  | cons a l ih =>
    cases m with
    | nil => cases e
    | cons b m =>
      rw [List.map_cons, List.map_cons] at e
      injection e with e1 e2
      rw [cd_inj (sgs_cons.mp hl).1 (sgs_cons.mp hm).1 e1, ih (sgs_cons.mp hl).2 (sgs_cons.mp hm).2 e2]
theorem cd_mono {i j : Nat} (hj : j < 5) (h : i < j) : cd i < cd j := by
  have : ∀ j, j < 5 → ∀ i, i < j → cd i < cd j := by decide
  exact this j hj i h
theorem map_lt : ∀ {l m : List Nat}, Sgs m → l < m → l.map cd < m.map cd
  | _, [], _, h => absurd h (List.not_lt_nil _)
  | [], b :: m, _, _ => List.nil_lt_cons _ _
  | a :: l, b :: m, hm, h => by
    rw [List.map_cons, List.map_cons, List.cons_lt_cons_iff]
    obtain ⟨h1, h2⟩ := sgs_cons.mp hm
    rcases List.cons_lt_cons_iff.mp h with h3 | ⟨h3, h4⟩
    · exact .inl (cd_mono h1 h3)
    · exact .inr ⟨by rw [h3], map_lt h2 h4⟩
theorem no_lt {l m : List Nat} (hm : Sgs m) (h : l = m ∨ l < m) : ¬ m.map cd < l.map cd := by
  rcases h with rfl | h
  · exact List.lt_irrefl _
  · exact List.lt_asymm (map_lt hm h)
theorem gt_txt {l m : List Nat} (h : ¬ m.map cd < l.map cd) : pGt (.str (txt l)) (.str (txt m)) = some (.fz (.bool false)) := by
  show oB (decide ((txt m).cps.toList < (txt l).cps.toList)) = _
  rw [txt_cps, txt_cps, decide_eq_false h]
  rfl
theorem le_txt {l m : List Nat} (h : m.map cd < l.map cd) : pLe (.str (txt l)) (.str (txt m)) = some (.fz (.bool false)) := by
  show oB (!decide ((txt m).cps.toList < (txt l).cps.toList)) = _
  rw [txt_cps, txt_cps, decide_eq_true h]
  rfl
theorem eq_txt {l m : List Nat} (hl : Sgs l) (hm : Sgs m) (n : Bool) : pEq n (.str (txt l)) (.str (txt m)) = some (.fz (.bool (n ^^ decide (l = m)))) := by
  rw [e_eqS _ _ _ (shaped_txt l) (shaped_txt m)]
  by_cases h : l = m
  · rw [decide_eq_true h, decide_eq_true (by rw [h])]
  · rw [decide_eq_false h, decide_eq_false fun z => h (txt_inj hl hm z)]
theorem cnt_small {b n q : Nat} (h : b + n + q ≤ 7) : cnt b n q ≤ 1000000 := by
  have : ∀ b, b < 8 → ∀ n, n < 8 → ∀ q, q < 8 → b + n + q ≤ 7 → cnt b n q ≤ 1000000 := by decide +kernel
  exact this b (by omega) n (by omega) q (by omega) h
theorem repr_nat {W : Nat} (h : W ≤ 1000000) : pReprI (.int (W : Int)) = some (.fz (.str (toString (W : Int)))) := by
  unfold pReprI
  dsimp only
  rw [if_pos]
  show W.log2 < 1920
  by_cases z : W = 0
  · rw [z]; decide
  · rw [Nat.log2_lt z]
    have : (2 : Nat) ^ 20 ≤ 2 ^ 1920 := Nat.pow_le_pow_right (by decide) (by decide)
    have : (2 : Nat) ^ 20 = 1048576 := by decide
    omega
/-! ### rows -/
section
variable {b n q : Nat}
abbrev W_ (b n q : Nat) : Nat := ways (b + n + q + 3) (fs b n q) true
abbrev ro (b n q m : Nat) : List Nat := rowOf (b + n + q + 3) (fs b n q) true m
abbrev rk (b n q : Nat) (l : List Nat) : Nat := rank (b + n + q + 3) (fs b n q) true l
theorem ro_chr {m : Nat} (hm : m < W_ b n q) : Chr b n q 3 0 true (ro b n q m) := acc_fs.mp (row_there _ _ _ _ hm).1
theorem ro_len {m : Nat} (hm : m < W_ b n q) : (ro b n q m).length = b + n + q + 3 := acc_len (row_there _ _ _ _ hm).1
theorem rk_ro {m : Nat} (hm : m < W_ b n q) : rk b n q (ro b n q m) = m := (row_there _ _ _ _ hm).2
theorem ro_rk {l : List Nat} (h : Chr b n q 3 0 true l) : rk b n q l < W_ b n q ∧ ro b n q (rk b n q l) = l := row_back l _ _ _ (acc_fs.mpr h)
theorem ro_lt {m m' : Nat} (hm : m' < W_ b n q) (h : m < m') : ro b n q m < ro b n q m' := by
  have hm0 : m < W_ b n q := Nat.lt_trans h hm
  refine rank_lt _ _ _ _ _ (row_there _ _ _ _ hm0).1 (row_there _ _ _ _ hm).1 ?_
  have e1 := rk_ro hm0
  have e2 := rk_ro hm
  unfold rk at e1 e2
  rw [e1, e2]
  exact h
theorem ro_le {m m' : Nat} (hm : m' < W_ b n q) (h : m ≤ m') : ro b n q m = ro b n q m' ∨ ro b n q m < ro b n q m' := by
  rcases Nat.lt_or_eq_of_le h with h | h
  · exact .inr (ro_lt hm h)
  · exact .inl (by rw [h])
theorem num_ro (h : b + n + q ≤ 7) {l : List Nat} (hc : Chr b n q 3 0 true l) : F_number_of [kD b n q, .str (txt l)] = .ok (.int (rk b n q l : Nat)) none := number_ok h (chr_fit hc) (acc_fs.mpr hc)
/-- how a mirrored row's number is told -/
def flip (b n q m : Nat) : Nat := rk b n q (ro b n q m).reverse
theorem flip_lt {m : Nat} (hm : m < W_ b n q) : flip b n q m < W_ b n q := (ro_rk (ro_chr hm).rev).1
theorem ro_flip {m : Nat} (hm : m < W_ b n q) : ro b n q (flip b n q m) = (ro b n q m).reverse := (ro_rk (ro_chr hm).rev).2
theorem flip_flip {m : Nat} (hm : m < W_ b n q) : flip b n q (flip b n q m) = m := by
  have e : flip b n q (flip b n q m) = rk b n q (ro b n q (flip b n q m)).reverse := rfl
  rw [e, ro_flip hm, List.reverse_reverse]
  exact rk_ro hm
theorem flip_fix {m : Nat} (hm : m < W_ b n q) : flip b n q m = m ↔ (ro b n q m).reverse = ro b n q m := by
  constructor
  · intro h
    have e := ro_flip hm
    rw [h] at e
    exact e.symm
  · intro h
    unfold flip
    rw [h]
    exact rk_ro hm
theorem part4 (h : b + n + q ≤ 7) {ds : List Nat} {t : Nat} (hW : 0 < W_ b n q) (s0 s4 s5 x7 x8 x9 x10 x11 : Slot) : ∃ y7 y8 y9 y10 : Slot,
    lawP4 F__law_mix F_row_of F_fits F_number_of [s0, .fz (drD ds), .fz (.int (t : Int)), .fz (kD b n q), s4, s5, .fz (.int (W_ b n q : Nat)), x7, x8, x9, x10, x11] = .nx [s0, .fz (drD ds), .fz (.int (t : Int)), .fz (kD b n q), s4, s5, .fz (.int (W_ b n q : Nat)), y7, y8, y9, y10, x11] := by
  have hb : B__law_mix = mixB 7919 104729 3 := rfl
  have mx : F__law_mix [drD ds, .int ((40 + t : Nat) : Int), .int (W_ b n q : Nat)] = .ok (.int (mixN ds (40 + t) (W_ b n q) : Nat)) none := by
    unfold F__law_mix
    rw [hb]
    exact mix_ok ds (40 + t) (W_ b n q) hW
  have hm := mixN_lt ds (40 + t) hW
  generalize mixN ds (40 + t) (W_ b n q) = m at mx hm
  have hm2 : m ≤ W_ b n q - 1 := Nat.le_sub_one_of_lt hm
  have hc := ro_chr hm
  have hr := hc.rev
  have l1 : (ro b n q m).length < 1000 := by rw [ro_len hm]; omega
  have e1 : (((40 + t : Nat) : Int)) = 40 + (t : Int) := by omega
  have e2 : (((W_ b n q - 1 : Nat) : Int)) = ((W_ b n q : Nat) : Int) - 1 := by omega
  have r1 := row_ok h hm
  have r2 := row_ok (m := W_ b n q - 1) h (by show _ < W_ b n q; omega)
  have r3 := row_ok (m := 0) h hW
  rw [e1] at mx
  rw [e2] at r2
  have nf : decide (flip b n q m = m) = decide (ro b n q m = (ro b n q m).reverse) := by
    rw [decide_eq_decide, flip_fix hm]
    exact eq_comm
  refine ⟨_, _, _, _, p4_ok (back := ((flip b n q m : Nat) : Int)) (rv := txt (ro b n q m).reverse) (by omega) mx r1 r2 (fits_ok h (chr_fit hc)) ?_ r3 (gt_txt (no_lt hc.sg (ro_le hm (Nat.zero_le _)))) (gt_txt (no_lt (ro_chr (m := W_ b n q - 1) (by omega)).sg (ro_le (m' := W_ b n q - 1) (by omega) hm2))) (fun c => ?_) (step_r l1) (num_ro h hr) ?_ ?_ ?_ _ _ _ _ _ _ _ _⟩
  · have := num_ro h hc
    rw [rk_ro hm] at this
    exact this
  · have c : m + 1 < W_ b n q := by omega
    refine ⟨_, row_ok h c, le_txt (map_lt (ro_chr c).sg (ro_lt (m := m) c (Nat.lt_succ_self m)))⟩
  · have := row_ok h (flip_lt hm)
    have e := ro_flip hm
    unfold ro at e
    rw [e] at this
    exact this
  · rw [eq_txt hr.sg hr.sg, decide_eq_true rfl]; rfl
  · rw [eq_txt hc.sg hr.sg, Bool.false_xor, ← nf]
    have : decide (((flip b n q m : Nat) : Int) = (m : Int)) = decide (flip b n q m = m) := by
      rw [decide_eq_decide]; omega
    rw [this]
theorem ix_txt {l : List Nat} (hl : l.length < 1000) {k i : Nat} (h : l[k]? = some i) (hi : i < 5) : pIxA (.str (txt l)) (.int (k : Int)) = some (.fz (.str (sg i))) := by
  unfold pIxA orE pIx
  dsimp only
  rw [if_pos (by rw [txt_len]; exact le_line' (by omega)), T3.atI_nat, txt_cps, List.getElem?_map, h, sg_cps hi]
  rfl
theorem mirr_ok (h : b + n + q ≤ 7) : F_own_mirrored [kD b n q] = .ok (.list ((((List.range (W_ b n q)).filter fun m => decide (ro b n q m = (ro b n q m).reverse)).map fun m => txt (ro b n q m)).map .str)) none := by
  have hW : W_ b n q ≤ 1000000 := by
    show ways _ _ _ ≤ _
    rw [ways_cnt]
    exact cnt_small h
  have t := own_body (fc := F_count) (fr := F_row_of) (kd := kD b n q) (W := W_ b n q) (tx := fun m => txt (ro b n q m)) (rv := fun m => txt (ro b n q m).reverse) (p := fun m => decide (ro b n q m = (ro b n q m).reverse)) hW (count_ok h) (fun m hm => row_ok h hm)
    (fun m hm => step_r (by rw [ro_len hm]; omega)) (fun m hm => by rw [eq_txt (ro_chr hm).sg (ro_chr hm).rev.sg, Bool.false_xor])
  have e : B_own_mirrored = sSeq (sSet [] 1 (own1 F_count F_row_of)) (sRet own2) := rfl
  unfold F_own_mirrored
  rw [e, t, List.map_map]
  rfl
theorem part5 (h : b + n + q ≤ 7) (s0 s1 s2 s4 s5 s7 s8 s9 s10 s11 : Slot) : ∃ y8 y11 : Slot, lawP5 F_own_mirrored [s0, s1, s2, .fz (kD b n q), s4, s5, .fz (.int (W_ b n q : Nat)), s7, s8, s9, s10, s11] = .nx [s0, s1, s2, .fz (kD b n q), s4, s5, .fz (.int (W_ b n q : Nat)), s7, y8, s9, s10, y11] := by
  have hK : ("K" : Str) = sg 1 := rfl
  refine p5_ok (sum_kD b n q) (fun _ => ⟨mirr_ok h, ?_, fun x hx => ?_⟩) _ _ _ _ _ _ _ _ _ _
  · rw [List.length_map]
    have ev := even_inv (W_ b n q) (flip b n q) (fun i hi => flip_lt hi) (fun i hi => flip_flip hi)
    have fe : ((List.range (W_ b n q)).filter fun i => flip b n q i == i) = (List.range (W_ b n q)).filter fun m => decide (ro b n q m = (ro b n q m).reverse) := by
      refine List.filter_congr fun m hm => ?_
      show decide (flip b n q m = m) = _
      rw [decide_eq_decide, flip_fix (List.mem_range.mp hm)]
      exact eq_comm
    rw [fe] at ev
    have le : ((List.range (W_ b n q)).filter fun m => decide (ro b n q m = (ro b n q m).reverse)).length ≤ W_ b n q := by
      have := List.length_filter_le (fun m => decide (ro b n q m = (ro b n q m).reverse)) (List.range (W_ b n q))
      rwa [List.length_range] at this
    omega
  · obtain ⟨m, hm, rfl⟩ := List.mem_map.mp hx
    obtain ⟨hm, hp⟩ := List.mem_filter.mp hm
    have hm := List.mem_range.mp hm
    have hp := of_decide_eq_true hp
    have hc := ro_chr hm
    have hl := ro_len hm
    have c1 : (ro b n q m).count 1 = 1 := (chr_fit hc).c1
    obtain ⟨o1, o2⟩ := pal_mid c1 hp.symm
    refine ⟨txt (ro b n q m).reverse, sg 1, step_r (by omega), ?_, ?_, ?_, ?_, ?_, ?_⟩
    · rw [eq_txt hc.sg hc.rev.sg, decide_eq_true hp]; rfl
    · rw [txt_len]; exact le_line' (by omega)
    · rw [txt_len]; omega
    · rw [txt_len]; omega
    · rw [txt_len, show (((ro b n q m).length : Int) / 2) = (((ro b n q m).length / 2 : Nat) : Int) from by omega]
      exact ix_txt (by omega) o2 (by decide)
    · rw [hK]
      kernel_rfl
theorem turn_ok (h : b + n + q ≤ 7) {ds : List Nat} {t : Nat} (s0 s4 s5 x7 x8 x9 x10 x11 : Slot) : ∃ y7 y8 y9 y10 y11 : Slot,
    lawP3 F_count F__law_count (sSeq (lawP4 F__law_mix F_row_of F_fits F_number_of) (lawP5 F_own_mirrored)) [s0, .fz (drD ds), .fz (.int (t : Int)), .fz (.tuple [.int (b : Int), .int (n : Int), .int (q : Int)]), s4, s5, .fz (.int (W_ b n q : Nat)), x7, x8, x9, x10, x11] = .nx [s0, .fz (drD ds), .fz (.int (t : Int)), .fz (kD b n q), s4, s5, .fz (.int (W_ b n q : Nat)), y7, y8, y9, y10, y11] := by
  have hw : W_ b n q = cnt b n q := ways_cnt b n q
  have c1 := law_count_ok h
  rw [← hw] at c1
  have c2 := count_ok (b := b) (n := q) (q := n) (by omega)
  rw [ways_cnt, cnt_swap h, ← hw] at c2
  have rs := repr_nat (W := W_ b n q) (by rw [hw]; exact cnt_small h)
  have req : pEq true (.str (toString ((W_ b n q : Nat) : Int))) (.str (toString ((W_ b n q : Nat) : Int))) = some (.fz (.bool false)) := by
    rw [e_eqS _ _ _ (shaped_of (strOk_of _)) (shaped_of (strOk_of _)), decide_eq_true rfl]
    rfl
  by_cases hW : 0 < W_ b n q
  · obtain ⟨y7, y8, y9, y10, e4⟩ := part4 h (ds := ds) (t := t) hW s0 s4 s5 x7 x8 x9 x10 x11
    obtain ⟨z8, z11, e5⟩ := part5 h s0 (.fz (drD ds)) (.fz (.int (t : Int))) s4 s5 y7 y8 y9 y10 x11
    refine ⟨y7, z8, y9, y10, z11, p3_ok c1 c2 rs req _ _ _ _ _ _ _ _ _ _ ?_⟩
    rw [e_sSeq]
    show (match lawP4 F__law_mix F_row_of F_fits F_number_of [s0, .fz (drD ds), .fz (.int (t : Int)), .fz (kD b n q), s4, s5, .fz (.int (W_ b n q : Nat)), x7, x8, x9, x10, x11] with
      | .nx e => lawP5 F_own_mirrored e
      | r => r) = _
    rw [e4]
    exact e5
  · obtain ⟨z8, z11, e5⟩ := part5 h s0 (.fz (drD ds)) (.fz (.int (t : Int))) s4 s5 x7 x8 x9 x10 x11
    refine ⟨x7, z8, x9, x10, z11, p3_ok c1 c2 rs req _ _ _ _ _ _ _ _ _ _ ?_⟩
    have e4 : lawP4 F__law_mix F_row_of F_fits F_number_of [s0, .fz (drD ds), .fz (.int (t : Int)), .fz (kD b n q), s4, s5, .fz (.int (W_ b n q : Nat)), x7, x8, x9, x10, x11] = .nx [s0, .fz (drD ds), .fz (.int (t : Int)), .fz (kD b n q), s4, s5, .fz (.int (W_ b n q : Nat)), x7, x8, x9, x10, x11] := by
      have c : ¬ (0 : Int) < ((W_ b n q : Nat) : Int) := by omega
      unfold lawP4
      simp only [e_vName, e_vC, e_rd, e_fz, e_op1, e_op2, e_aNil, e_aCons, e_aLast, e_opN, e_dsp, e_opC, e_vOr, e_vAnd, e_vNot, e_vIf, e_tst, e_tru, e_tAnd, e_tOr, e_tNot, e_opMt, e_ptNone, e_ptSome, e_opSl, e_opSt, e_callF, e_callIo, e_mMut, e_vDict0, e_vDict, e_dCons, e_dNil, e_sNil, e_sSeq, e_sIf, e_sRet, e_sRetN, e_sExpr, e_sBk, e_sCt, e_sSet, e_slF, e_sAsg, e_sPut, e_iSeq, e_iRange1, e_iRange2, e_iEnum, e_tstYes, e_gN0, e_gT, e_gsNil, e_gsCons, e_eqI, fzR, Rv.get, getA, allFz, appO, Out.rv, List.getElem?_cons_zero, List.getElem?_cons_succ, List.set_cons_zero, List.set_cons_succ, Nat.reduceAdd, List.length_cons, List.length_nil, if_true, if_false, one, decide_true, decide_false, Bool.xor_false, Bool.false_xor, Bool.true_xor, Bool.not_true, Bool.not_false, oTup, oLst, splitL, List.cons_append, List.nil_append, e_gN, and_self, o_addI, o_subI, o_mulI, o_modI, o_neg, o_ltI, o_leI, o_gtI, o_geI, o_isN, o_nN, o_nB, o_nI, o_nS, o_nT, o_nL, o_nD, o_isB, o_itL, o_itT, o_listL, o_listT, o_tupL, o_tupT, o_lenL, o_lenT, o_lenS, o_abs, o_toInt, o_app, o_ixTn, o_ixLn, o_ixDct, o_inDct, o_setLn, o_setDct, o_sumL, o_sumT, o_ln0, o_ln1, o_ln2, o_ln3, o_ln4, o_ln5, o_ln6, o_ln7, o_ln8, o_ln9, o_ln10, o_ln11, o_ixT0, o_ixL0, o_setL0, o_ixT1, o_ixL1, o_setL1, o_ixT2, o_ixL2, o_setL2, o_ixT3, o_ixL3, o_setL3, o_ixT4, o_ixL4, o_setL4, o_ixT5, o_ixL5, o_setL5, o_ixT6, o_ixL6, o_setL6, o_ixT7, o_ixL7, o_setL7, o_ixT8, o_ixL8, o_setL8, o_ixT9, o_ixL9, o_setL9, o_divI, Option.map_some, Option.map_none, List.not_mem_nil, reduceIte, Bool.false_eq_true, List.mem_singleton, Nat.reduceLT, Nat.reduceLeDiff, Int.reduceLT, Int.reduceLE, Nat.reduceEqDiff, Int.reduceNeg, c]
    rw [e_sSeq]
    show (match lawP4 F__law_mix F_row_of F_fits F_number_of [s0, .fz (drD ds), .fz (.int (t : Int)), .fz (kD b n q), s4, s5, .fz (.int (W_ b n q : Nat)), x7, x8, x9, x10, x11] with
      | .nx e => lawP5 F_own_mirrored e
      | r => r) = _
    rw [e4]
    exact e5
end
theorem law_turn (ds : List Nat) (sd : T3.D) (t : Nat) (x3 x4 x5 x6 x7 x8 x9 x10 x11 : Slot) : ∃ y3 y4 y5 y6 y7 y8 y9 y10 y11 : Slot, lawT F__law_mix F_count F__law_count F_row_of F_fits F_number_of F_own_mirrored [.fz sd, .fz (drD ds), .fz (.int (t : Int)), x3, x4, x5, x6, x7, x8, x9, x10, x11] = .nx [.fz sd, .fz (drD ds), .fz (.int (t : Int)), y3, y4, y5, y6, y7, y8, y9, y10, y11] := by
  have hb : B__law_mix = mixB 7919 104729 3 := rfl
  have mx : ∀ k many : Nat, 0 < many → F__law_mix [drD ds, .int (k : Int), .int (many : Int)] = .ok (.int (mixN ds k many : Nat)) none := fun k many h => by
    unfold F__law_mix
    rw [hb]
    exact mix_ok ds k many h
  have m0 := mx (5 * t) 8 (by decide)
  have b0 := mixN_lt ds (5 * t) (many := 8) (by decide)
  generalize mixN ds (5 * t) 8 = x at m0 b0
  have m1 := mx (5 * t + 1) (8 - x) (by omega)
  have b1 := mixN_lt ds (5 * t + 1) (many := 8 - x) (by omega)
  generalize mixN ds (5 * t + 1) (8 - x) = y at m1 b1
  have m2 := mx (5 * t + 2) (8 - (x + y)) (by omega)
  have b2 := mixN_lt ds (5 * t + 2) (many := 8 - (x + y)) (by omega)
  generalize mixN ds (5 * t + 2) (8 - (x + y)) = z at m2 b2
  have m3 := mx (5 * t + 3) 3 (by decide)
  have b3 := mixN_lt ds (5 * t + 3) (many := 3) (by decide)
  generalize mixN ds (5 * t + 3) 3 = k at m3 b3
  rw [show ((5 * t : Nat) : Int) = 5 * (t : Int) + 0 from by omega, show ((8 : Nat) : Int) = 8 - 0 from by omega] at m0
  rw [show ((5 * t + 1 : Nat) : Int) = 5 * (t : Int) + 1 from by omega, show ((8 - x : Nat) : Int) = 8 - (x : Int) from by omega] at m1
  rw [show ((5 * t + 2 : Nat) : Int) = 5 * (t : Int) + 2 from by omega, show ((8 - (x + y) : Nat) : Int) = 8 - ((x : Int) + (y : Int)) from by omega] at m2
  rw [show ((5 * t + 3 : Nat) : Int) = 5 * (t : Int) + 3 from by omega, show ((3 : Nat) : Int) = 3 from rfl] at m3
  have e1 := p1_ok m0 m1 m2 (.fz sd) x4 x5 x6 x7 x8 x9 x10 x11
  have key : ∀ {b n q : Nat} {l1 l2 : List T3.D}, b + n + q ≤ 7 → pSl (.list [.int (x : Int), .int (y : Int), .int (z : Int)]) (some (k : Int)) none = some (.nl l1) → pSl (.list [.int (x : Int), .int (y : Int), .int (z : Int)]) none (some (k : Int)) = some (.nl l2) → pAdd (.list l1) (.list l2) = some (.nl [.int (b : Int), .int (n : Int), .int (q : Int)]) →
      ∃ y3 y4 y5 y6 y7 y8 y9 y10 y11 : Slot, lawT F__law_mix F_count F__law_count F_row_of F_fits F_number_of F_own_mirrored [.fz sd, .fz (drD ds), .fz (.int (t : Int)), x3, x4, x5, x6, x7, x8, x9, x10, x11] = .nx [.fz sd, .fz (drD ds), .fz (.int (t : Int)), y3, y4, y5, y6, y7, y8, y9, y10, y11] := fun {b n q l1 l2} hs s1 s2 s3 => by
    obtain ⟨y7, y8, y9, y10, y11, e3⟩ := turn_ok hs (ds := ds) (t := t) (.fz sd) (.fz (.int 2)) (.fz (.int (k : Int))) x7 x8 x9 x10 x11
    have e2 := p2_ok m3 s1 s2 s3 (count_ok hs) (.fz sd) (.fz (.int 2)) x5 x6 x7 x8 x9 x10 x11 e3
    refine ⟨.fz (kD b n q), .fz (.int 2), .fz (.int (k : Int)), .fz (.int (W_ b n q : Nat)), y7, y8, y9, y10, y11, ?_⟩
    unfold lawT
    generalize lawP1 F__law_mix = P1 at *
    generalize lawP2 F__law_mix F_count (lawP3 F_count F__law_count (sSeq (lawP4 F__law_mix F_row_of F_fits F_number_of) (lawP5 F_own_mirrored))) = P2 at *
    simp only [e_vName, e_vC, e_rd, e_fz, e_op1, e_op2, e_aNil, e_aCons, e_aLast, e_opN, e_dsp, e_opC, e_vOr, e_vAnd, e_vNot, e_vIf, e_tst, e_tru, e_tAnd, e_tOr, e_tNot, e_opMt, e_ptNone, e_ptSome, e_opSl, e_opSt, e_callF, e_callIo, e_mMut, e_vDict0, e_vDict, e_dCons, e_dNil, e_sNil, e_sSeq, e_sIf, e_sRet, e_sRetN, e_sExpr, e_sBk, e_sCt, e_sSet, e_slF, e_sAsg, e_sPut, e_iSeq, e_iRange1, e_iRange2, e_iEnum, e_tstYes, e_gN0, e_gT, e_gsNil, e_gsCons, e_eqI, fzR, Rv.get, getA, allFz, appO, Out.rv, List.getElem?_cons_zero, List.getElem?_cons_succ, List.set_cons_zero, List.set_cons_succ, Nat.reduceAdd, List.length_cons, List.length_nil, if_true, if_false, one, decide_true, decide_false, Bool.xor_false, Bool.false_xor, Bool.true_xor, Bool.not_true, Bool.not_false, oTup, oLst, splitL, List.cons_append, List.nil_append, e_gN, and_self, o_addI, o_subI, o_mulI, o_modI, o_neg, o_ltI, o_leI, o_gtI, o_geI, o_isN, o_nN, o_nB, o_nI, o_nS, o_nT, o_nL, o_nD, o_isB, o_itL, o_itT, o_listL, o_listT, o_tupL, o_tupT, o_lenL, o_lenT, o_lenS, o_abs, o_toInt, o_app, o_ixTn, o_ixLn, o_ixDct, o_inDct, o_setLn, o_setDct, o_sumL, o_sumT, o_ln0, o_ln1, o_ln2, o_ln3, o_ln4, o_ln5, o_ln6, o_ln7, o_ln8, o_ln9, o_ln10, o_ln11, o_ixT0, o_ixL0, o_setL0, o_ixT1, o_ixL1, o_setL1, o_ixT2, o_ixL2, o_setL2, o_ixT3, o_ixL3, o_setL3, o_ixT4, o_ixL4, o_setL4, o_ixT5, o_ixL5, o_setL5, o_ixT6, o_ixL6, o_setL6, o_ixT7, o_ixL7, o_setL7, o_ixT8, o_ixL8, o_setL8, o_ixT9, o_ixL9, o_setL9, o_divI, Option.map_some, Option.map_none, List.not_mem_nil, reduceIte, Bool.false_eq_true, List.mem_singleton, Nat.reduceLT, Nat.reduceLeDiff, Int.reduceLT, Int.reduceLE, Nat.reduceEqDiff, Int.reduceNeg, e1, e2]
  rcases k with _ | _ | _ | k
  · exact key (b := x) (n := y) (q := z) (by omega) rfl rfl rfl
  · exact key (b := y) (n := z) (q := x) (by omega) rfl rfl rfl
  · exact key (b := z) (n := x) (q := y) (by omega) rfl rfl rfl
  · omega
theorem hlaw (ns : List Int) (hn : ns.length ≤ 63) : F_law [.list (ns.map PyData.int)] = .ok (.bool true) none := by
  have hb : B__law_draws = drawsB 48271 69621 2147483647 16807 2147483629 65536 32768 := rfl
  obtain ⟨ds, h0, _⟩ := draws_ok ns hn
  have h0 : F__law_draws [scD ns] = .ok (drD ds) none := by
    unfold F__law_draws
    rw [hb]
    exact h0
  have w1 : ways (0 + 0 + 0 + 3) (fs 0 0 0) true = 1 := by decide
  have c1 := count_ok (b := 0) (n := 0) (q := 0) (by decide)
  rw [w1] at c1
  have r1 := row_ok (b := 0) (n := 0) (q := 0) (m := 0) (by decide) (by rw [w1]; decide)
  have rt : txt (rowOf (0 + 0 + 0 + 3) (fs 0 0 0) true 0) = ("RKR" : Str) := by kernel_rfl
  rw [rt] at r1
  have t := lawB_ok (fl' := F__law_count) (ff := F_fits) (fn := F_number_of) (fo := F_own_mirrored) (fm := F__law_mix) h0 (fun t _ => law_turn ds (scD ns) t) c1 r1
  unfold F_law
  rw [lawB_eq]
  exact t
end K77
end
theorem PySem.Challenge.cw_matestold_k77_whole_counts_of_first_rows_holds : PySem.Challenge.rw_matestold_k77_whole_counts_of_first_rows.Holds :=
  K77.holds K77.hlaw
