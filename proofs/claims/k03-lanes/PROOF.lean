import PyProof.Rows.All
import Wide.All
import OpenK.AllK
import Wide.FinOn
import HandS.ForMost
import KE.KDictKeyed
import KE.KDictWalk
import HandS.TupAny
import HandS.Deep
import PyProof.P3In
import HandS.IsInst
import HandS.More
import HandS.Iter
import HandS.Zip
import HandS.Comp
import PySem.Challenge.RW_hangbridge_k03_lanes_of_frames
set_option Elab.async false
set_option linter.all false
set_option maxRecDepth 100000
set_option maxHeartbeats 4000000
/-! data by value, and how it stands in the heap -/
namespace PI
open PySem L2

inductive D where
  | non | bl (b : Bool) | int (i : Int) | str (x : Str)
  | lst (xs : List D) | tup (xs : List D) | dct (kvs : List (D × D)) | obj (n : Nat)
  deriving Inhabited

/-- keys of the plain dicts -/
def kOf : D → Option Key
  | .int i => some (.inl i)
  | .str x => some (.inr x)
  | _ => none

mutual
/-- a key up to == -/
def nkOf : D → Option NestedKey
  | .non => some .none
  | .bl b => some (.num (if b then 1 else 0))
  | .int i => some (.num i)
  | .str x => some (.text x)
  | .tup xs => (nksOf xs).map .tup
  | _ => none
def nksOf : List D → Option (List NestedKey)
  | [] => some []
  | x :: r => match nkOf x, nksOf r with
    | some k, some ks => some (k :: ks)
    | _, _ => none
end

/-- a dict object at a whose keys are tuples: (key, address of the tuple, value) in order -/
def TD (w : World) (a : Addr) (xs : List (NestedKey × Addr × V)) (h : Heap) : Prop :=
  xs.length ≤ sizeLine ∧ (a == sysModules) = false ∧ ∃ ys : List (NestedKey × Addr × Value),
    Paired (fun p q => p.1 = q.1 ∧ p.2.1 = q.2.1 ∧ RelV p.2.2 q.2.2) xs ys ∧ (xs.map (·.1)).Nodup ∧
      ∃ o es ep, h.get? a = some o ∧ o.ExactDict ∧ o.data = .dict es ep ∧ es.toList = ys.map fun x => (⟨NestedKey.hash w x.1, .ref x.2.1, x.2.2⟩ : DictEntry)

/-- the ghost world: F what is frozen, P what is kept as it is, E the addresses of the store's objects -/
structure Wd where
  F : Hp
  P : Hp
  L : Hp
  E : List Addr
def Wd.Le (W W' : Wd) : Prop := Same W.F W'.F ∧ ∀ (n : Nat) (a : Addr), W.E[n]? = some a → W'.E[n]? = some a
theorem Wd.Le.refl (W : Wd) : W.Le W := ⟨Same.refl _, fun _ _ h => h⟩
theorem Wd.Le.trans {A B C : Wd} (a : A.Le B) (b : B.Le C) : A.Le C := ⟨a.1.trans b.1, fun n x h => b.2 n x (a.2 n x h)⟩

/-- .. and what is kept is the same -/
structure Wd.Ext (W W' : Wd) : Prop where
  le : W.Le W'
  P : W'.P = W.P
  L : W'.L = W.L
theorem Wd.Ext.refl (W : Wd) : W.Ext W := ⟨.refl _, rfl, rfl⟩
theorem Wd.Ext.trans {A B C : Wd} (a : A.Ext B) (b : B.Ext C) : A.Ext C := ⟨a.le.trans b.le, b.P.trans a.P, b.L.trans a.L⟩

section
variable (K : PySem.W.Frag) (w : World) (W : Wd)
mutual
def Rep : D → V → Prop
  | .non, v => v = .non
  | .bl b, v => v = .bl b
  | .int i, v => v = .int i
  | .str x, v => v = .str x
  | .lst ds, v => ∃ a vs, v = .ref a ∧ W.F a = some (.lst vs) ∧ Reps ds vs
  | .tup ds, v => ∃ a vs, v = .ref a ∧ SqT K W.F a vs ∧ Reps ds vs
  | .dct kvs, v => ∃ a, v = .ref a ∧ ((∃ ks, W.F a = some (.dK ks) ∧ RepK kvs ks) ∨ ∃ xs, W.F a = some (.ext (TD w a xs)) ∧ RepX kvs xs)
  | .obj n, v => ∃ a, v = .ref a ∧ W.E[n]? = some a
def Reps : List D → List V → Prop
  | [], vs => vs = []
  | d :: ds, vs => ∃ v r, vs = v :: r ∧ Rep d v ∧ Reps ds r
def RepK : List (D × D) → List (Key × V) → Prop
  | [], ks => ks = []
  | (kd, d) :: ds, ks => ∃ k v r, ks = (k, v) :: r ∧ kOf kd = some k ∧ Rep d v ∧ RepK ds r
def RepX : List (D × D) → List (NestedKey × Addr × V) → Prop
  | [], ks => ks = []
  | (kd, d) :: ds, ks => ∃ k b v r, ks = (k, b, v) :: r ∧ nkOf kd = some k ∧ k.depth ≤ 8 ∧ Rep kd (.ref b) ∧ Rep d v ∧ RepX ds r
end
end

section
variable {K : PySem.W.Frag} {w : World} {W W' : Wd}
theorem sqL_same {H H' : Hp} (e : Same H H') {a : Addr} {vs : List V} (h : SqL K H a vs) : SqL K H' a vs := e.seq h
theorem sqT_same {H H' : Hp} (e : Same H H') {a : Addr} {vs : List V} (h : SqT K H a vs) : SqT K H' a vs := by
  rcases h with (h | ⟨o, h⟩) | h
  · exact .inl (.inl (e _ _ h))
  · exact .inl (.inr ⟨o, e _ _ h⟩)
  · exact .inr h
mutual
theorem rep_mono (e : W.Le W') : ∀ (d : D) (v : V), Rep K w W d v → Rep K w W' d v
  | .non, v, h => by simpa [Rep] using h
  | .bl b, v, h => by simpa [Rep] using h
  | .int i, v, h => by simpa [Rep] using h
  | .str x, v, h => by simpa [Rep] using h
  | .lst ds, v, h => by
    unfold Rep at h ⊢
    obtain ⟨a, vs, e1, h1, h2⟩ := h
    exact ⟨a, vs, e1, e.1 _ _ h1, reps_mono e ds vs h2⟩
  | .tup ds, v, h => by
    unfold Rep at h ⊢
    obtain ⟨a, vs, e1, h1, h2⟩ := h
    exact ⟨a, vs, e1, sqT_same e.1 h1, reps_mono e ds vs h2⟩
  | .dct kvs, v, h => by
    unfold Rep at h ⊢
    obtain ⟨a, e1, h⟩ := h
    refine ⟨a, e1, ?_⟩
    rcases h with ⟨ks, h1, h2⟩ | ⟨xs, h1, h2⟩
    · exact .inl ⟨ks, e.1 _ _ h1, repK_mono e kvs ks h2⟩
    · exact .inr ⟨xs, e.1 _ _ h1, repX_mono e kvs xs h2⟩
  | .obj n, v, h => by
    unfold Rep at h ⊢
    obtain ⟨a, e1, h⟩ := h
    exact ⟨a, e1, e.2 _ _ h⟩
theorem reps_mono (e : W.Le W') : ∀ (ds : List D) (vs : List V), Reps K w W ds vs → Reps K w W' ds vs
  | [], vs, h => by simpa [Reps] using h
  | d :: ds, vs, h => by
    unfold Reps at h ⊢
    obtain ⟨v, r, e1, h1, h2⟩ := h
    exact ⟨v, r, e1, rep_mono e d v h1, reps_mono e ds r h2⟩
theorem repK_mono (e : W.Le W') : ∀ (ds : List (D × D)) (ks : List (Key × V)), RepK K w W ds ks → RepK K w W' ds ks
  | [], ks, h => by simpa [RepK] using h
  | (kd, d) :: ds, ks, h => by
    unfold RepK at h ⊢
    obtain ⟨k, v, r, e1, h0, h1, h2⟩ := h
    exact ⟨k, v, r, e1, h0, rep_mono e d v h1, repK_mono e ds r h2⟩
theorem repX_mono (e : W.Le W') : ∀ (ds : List (D × D)) (ks : List (NestedKey × Addr × V)), RepX K w W ds ks → RepX K w W' ds ks
  | [], ks, h => by simpa [RepX] using h
  | (kd, d) :: ds, ks, h => by
    unfold RepX at h ⊢
    obtain ⟨k, b, v, r, e1, h0, h8, hb, h1, h2⟩ := h
    exact ⟨k, b, v, r, e1, h0, h8, rep_mono e kd _ hb, rep_mono e d v h1, repX_mono e ds r h2⟩
end
theorem reps_length : ∀ {ds : List D} {vs : List V}, Reps K w W ds vs → vs.length = ds.length
  | [], vs, h => by
    unfold Reps at h
    subst h
    rfl
  | d :: ds, vs, h => by
    unfold Reps at h
    obtain ⟨v, r, rfl, _, h2⟩ := h
    rw [List.length_cons, List.length_cons, reps_length h2]
end
end PI
/-! places, objects, the relation -/
namespace PI
open PySem L2

inductive Cell where
  | val (d : D) | own (d : D) | lck (d : D)
  deriving Inhabited
def Cell.d : Cell → D
  | .val d | .own d | .lck d => d
inductive SObj where
  | ins (c : Nat) (fs : List (Str × Cell)) | drw (cells : List Int) (seed : Int)
  deriving Inhabited
abbrev Env := List (Option Cell)
abbrev Sto := List SObj

/-- a dict that may be locked while it is walked -/
def DctO : HO → Prop
  | .dK _ => True
  | .ext _ => True
  | _ => False
def RdD (H : Hp) (a : Addr) (o : HO) : Prop := H a = some o ∨ (DctO o ∧ ∃ ob, H a = some (.frz ob o))
/-- o shows u -/
def Vw (o u : HO) : Prop := o = u ∨ (DctO u ∧ ∃ ob, o = .frz ob u)
theorem Vw.rd {H : Hp} {a : Addr} {o u : HO} (h : Vw o u) (e : H a = some o) : RdD H a u := by
  rcases h with h | ⟨h1, ob, h2⟩
  · exact .inl (by rw [e, h])
  · exact .inr ⟨h1, ob, by rw [e, h2]⟩
theorem RdD.rd {H : Hp} {a : Addr} {o : HO} (h : RdD H a o) : Rd H a o := h.elim .inl fun ⟨_, ob, e⟩ => .inr ⟨ob, e⟩
theorem RdD.same {H H' : Hp} {a : Addr} {o : HO} (e : Same H H') (h : RdD H a o) : RdD H' a o := h.elim (fun h => .inl (e _ _ h)) fun ⟨q, ob, z⟩ => .inr ⟨q, ob, e _ _ z⟩
theorem RdD.ne {H : Hp} {a : Addr} {o : HO} (h : RdD H a o) : H a ≠ none := by
  rcases h with h | ⟨_, ob, h⟩ <;> rw [h] <;> exact fun z => nomatch z
theorem RdD.lst {H : Hp} {a : Addr} {vs : List V} (h : RdD H a (HO.lst vs)) : H a = some (.lst vs) := h.elim (fun h => h) fun ⟨q, _⟩ => q.elim
theorem RdD.tup {H : Hp} {a : Addr} {vs : List V} (h : RdD H a (HO.tup vs)) : H a = some (.tup vs) := h.elim (fun h => h) fun ⟨q, _⟩ => q.elim

section
variable (K : PySem.W.Frag) (w : World) (cl : Nat → Option Addr) (W : Wd)
/-- the container o at p holds d -/
def Cont (p : Addr) : D → HO → Prop
  | .lst ds, o => ∃ vs, o = .lst vs ∧ Reps K w W ds vs
  | .dct kvs, o => (∃ ks, o = .dK ks ∧ RepK K w W kvs ks) ∨ ∃ xs, o = .ext (TD w p xs) ∧ RepX K w W kvs xs
  | _, _ => False
/-- .. or a tuple -/
def Make (p : Addr) (d : D) (o : HO) : Prop := Cont K w W p d o ∨ ∃ ds vs, d = .tup ds ∧ o = .tup vs ∧ Reps K w W ds vs
def CellR (H : Hp) : Cell → V → Prop
  | .val d, v => Rep K w W d v
  | .own d, v => ∃ p o, v = .ref p ∧ H p = some o ∧ Cont K w W p d o ∧ W.F p = none ∧ W.P p = none
  | .lck d, v => ∃ p o u, v = .ref p ∧ W.P p = some o ∧ Vw o u ∧ Cont K w W p d u
def Cell.nl : Cell → Prop
  | .lck _ => False
  | _ => True
def ObjR (H : Hp) (a : Addr) : SObj → Prop
  | .ins c fs => ∃ C dx vs, H a = some (.ins C dx vs) ∧ cl c = some C ∧ Paired (fun (x : Str × Cell) (y : Str × V) => x.1 = y.1 ∧ x.2.nl ∧ CellR K w W H x.2 y.2) fs vs
  | .drw cells seed => ∃ p, H a = some (.lst [.ref p, .int seed]) ∧ H p = some (.lst (cells.map V.int)) ∧ W.F p = none ∧ W.P p = none
/-- the container at p belongs to the field f of the object n -/
def FOwn (sto : Sto) (H : Hp) (n : Nat) (f : Nat) (p : Addr) : Prop := ∃ a, W.E[n]? = some a ∧
  ((∃ c fs x d C dx vs y, sto[n]? = some (.ins c fs) ∧ fs[f]? = some (x, .own d) ∧ H a = some (.ins C dx vs) ∧ vs[f]? = some (y, .ref p)) ∨
    ∃ cells seed, sto[n]? = some (.drw cells seed) ∧ H a = some (.lst [.ref p, .int seed]) ∧ f = 0)
structure RelS (sto : Sto) (H : Hp) : Prop where
  subF : ∀ a o, W.F a = some o → RdD H a o
  subP : ∀ a o, W.P a = some o → H a = some o
  subL : ∀ a o, W.L a = some o → H a = some o
  disj : ∀ a o, W.P a = some o → W.F a = none
  disL : ∀ a o, W.L a = some o → W.F a ≠ none
  len : W.E.length = sto.length
  nd : W.E.Nodup
  nE : ∀ a, a ∈ W.E → W.F a = none ∧ W.P a = none
  ob : ∀ (n : Nat) (s : SObj) (a : Addr), sto[n]? = some s → W.E[n]? = some a → ObjR K w cl W H a s
  sep : ∀ n f n' f' p, FOwn W sto H n f p → FOwn W sto H n' f' p → n = n' ∧ f = f'
  sepE : ∀ n f p, FOwn W sto H n f p → p ∉ W.E
structure RelE (env : Env) (σ : St) (sto : Sto) (H : Hp) : Prop where
  len : env.length = σ.length
  cell : ∀ (i : Nat) (c : Cell), env[i]? = some (some c) → ∃ v, σ[i]? = some (some v) ∧ CellR K w W H c v
  sep : ∀ (i j : Nat) (d d' : D) (p : Addr), env[i]? = some (some (.own d)) → env[j]? = some (some (.own d')) → σ[i]? = some (some (.ref p)) → σ[j]? = some (some (.ref p)) → i = j
  sepF : ∀ (i : Nat) (d : D) (p : Addr) n f, env[i]? = some (some (.own d)) → σ[i]? = some (some (.ref p)) → ¬ FOwn W sto H n f p
  sepE : ∀ (i : Nat) (d : D) (p : Addr), env[i]? = some (some (.own d)) → σ[i]? = some (some (.ref p)) → p ∉ W.E
structure Rel (env : Env) (sto : Sto) (σ : St) (H : Hp) : Prop where
  s : RelS K w cl W sto H
  e : RelE K w W env σ sto H
/-- nobody holds p -/
structure Free (env : Env) (sto : Sto) (σ : St) (H : Hp) (p : Addr) : Prop where
  F : W.F p = none
  P : W.P p = none
  E : p ∉ W.E
  own : ∀ n f, ¬ FOwn W sto H n f p
  env : ∀ (i : Nat) (d : D), env[i]? = some (some (.own d)) → σ[i]? ≠ some (some (.ref p))
end

section
variable {K : PySem.W.Frag} {w : World} {cl : Nat → Option Addr} {W W' : Wd} {env : Env} {sto : Sto} {σ : St} {H H' : Hp}
theorem cont_mono (e : W.Le W') {p : Addr} {d : D} {o : HO} (h : Cont K w W p d o) : Cont K w W' p d o := by
  cases d with
  | lst ds => obtain ⟨vs, e1, h⟩ := h; exact ⟨vs, e1, reps_mono e _ _ h⟩
  | tup ds => exact h.elim
  | dct kvs =>
    rcases h with ⟨ks, e1, h⟩ | ⟨xs, e1, h⟩
    · exact .inl ⟨ks, e1, repK_mono e _ _ h⟩
    · exact .inr ⟨xs, e1, repX_mono e _ _ h⟩
  | non => exact h.elim
  | bl => exact h.elim
  | int => exact h.elim
  | str => exact h.elim
  | obj => exact h.elim
theorem paired_imp {α β : Type} {F G : α → β → Prop} (h : ∀ a b, F a b → G a b) : ∀ {l : List α} {l' : List β}, Paired F l l' → Paired G l l'
  | _, _, .nil => .nil
  | _, _, .cons a b => .cons (h _ _ a) (paired_imp h b)
theorem paired_lookup {α β : Type} {G : α → β → Prop} : ∀ {l : List (Str × α)} {l' : List (Str × β)}, Paired (fun (x : Str × α) (y : Str × β) => x.1 = y.1 ∧ G x.2 y.2) l l' → ∀ f,
    (l.lookup f = none ∧ l'.lookup f = none) ∨ ∃ a b, l.lookup f = some a ∧ l'.lookup f = some b ∧ G a b
  | _, _, .nil, f => .inl ⟨rfl, rfl⟩
  | (x, a) :: _, (y, b) :: _, .cons ⟨h1, h2⟩ r, f => by
    have h1 : x = y := h1
    subst h1
    cases e : f == x with
    | true =>
      simp only [List.lookup_cons, e]
      exact .inr ⟨a, b, rfl, rfl, h2⟩
    | false =>
      simp only [List.lookup_cons, e]
      exact paired_lookup r f
theorem paired_mem_imp {α β : Type} {F G : α → β → Prop} : ∀ {l : List α} {l' : List β}, (∀ (j : Nat) (a : α) (b : β), l[j]? = some a → l'[j]? = some b → F a b → G a b) → Paired F l l' → Paired G l l'
  | _, _, _, .nil => .nil
  | _, _, h, .cons a b => .cons (h 0 _ _ rfl rfl a) (paired_mem_imp (fun j x y e1 e2 => h (j + 1) x y (by simpa using e1) (by simpa using e2)) b)
/-- the heap grows (old things stand) -/
theorem cellR_same (e : Same H H') {c : Cell} {v : V} (h : CellR K w W H c v) : CellR K w W H' c v := by
  cases c with
  | val d => exact h
  | own d => obtain ⟨p, o, e1, h1, r⟩ := h; exact ⟨p, o, e1, e _ _ h1, r⟩
  | lck d => exact h
theorem fown_back (R : RelS K w cl W sto H) (e : Same H H') {n f : Nat} {p : Addr} (h : FOwn W sto H' n f p) : FOwn W sto H n f p := by
  obtain ⟨a, ha, h⟩ := h
  refine ⟨a, ha, ?_⟩
  rcases h with ⟨c, fs, x, d, C, dx, vs, y, h1, h2, h3, h4⟩ | ⟨cells, seed, h1, h2, h3⟩
  · obtain ⟨C', dx', vs', q, _⟩ := R.ob n _ a h1 ha
    have z := e _ _ q
    rw [h3] at z
    have z := Option.some.inj z
    exact .inl ⟨c, fs, x, d, C, dx, vs, y, h1, h2, by rw [q, z], h4⟩
  · obtain ⟨p', q, _⟩ := R.ob n _ a h1 ha
    have z := e _ _ q
    rw [h2] at z
    have z := Option.some.inj z
    exact .inr ⟨cells, seed, h1, by rw [q, z], h3⟩
theorem relS_same (R : RelS K w cl W sto H) (e : Same H H') : RelS K w cl W sto H' := by
  refine ⟨fun a o h => (R.subF a o h).same e, fun a o h => e _ _ (R.subP a o h), fun a o h => e _ _ (R.subL a o h), R.disj, R.disL, R.len, R.nd, R.nE, fun n s a h1 h2 => ?_, fun n f n' f' p h1 h2 => R.sep n f n' f' p (fown_back R e h1) (fown_back R e h2), fun n f p h => R.sepE n f p (fown_back R e h)⟩
  have q := R.ob n s a h1 h2
  cases s with
  | ins c fs =>
    obtain ⟨C, dx, vs, h3, h4, h5⟩ := q
    exact ⟨C, dx, vs, e _ _ h3, h4, paired_imp (fun x y z => ⟨z.1, z.2.1, cellR_same e z.2.2⟩) h5⟩
  | drw cells seed =>
    obtain ⟨p, h3, h4, r⟩ := q
    exact ⟨p, e _ _ h3, e _ _ h4, r⟩
theorem relE_same (R : RelS K w cl W sto H) (E : RelE K w W env σ sto H) (e : Same H H') : RelE K w W env σ sto H' :=
  ⟨E.len, fun i c h => let ⟨v, h1, h2⟩ := E.cell i c h; ⟨v, h1, cellR_same e h2⟩, E.sep, fun i d p n f h1 h2 h3 => E.sepF i d p n f h1 h2 (fown_back R e h3), E.sepE⟩
theorem rel_same (R : Rel K w cl W env sto σ H) (e : Same H H') : Rel K w cl W env sto σ H' := ⟨relS_same R.s e, relE_same R.s R.e e⟩
theorem same_new {p : Addr} {o : HO} (h : H p = none) : Same H (upd H p o) := fun a u e => by
  rw [upd_ne (ne_of_none e h)]
  exact e
theorem rel_new (R : Rel K w cl W env sto σ H) {p : Addr} {o : HO} (h : H p = none) : Rel K w cl W env sto σ (upd H p o) := rel_same R (same_new h)
theorem fown_some (R : RelS K w cl W sto H) {n f : Nat} {p : Addr} (h : FOwn W sto H n f p) : H p ≠ none ∧ W.F p = none ∧ W.P p = none := by
  obtain ⟨a, ha, h⟩ := h
  rcases h with ⟨c, fs, x, d, C, dx, vs, y, h1, h2, h3, h4⟩ | ⟨cells, seed, h1, h2, h3⟩
  · obtain ⟨C', dx', vs', q, _, hp⟩ := R.ob n _ a h1 ha
    rw [h3] at q
    have q := Option.some.inj q
    injection q with q1 q2 q3
    subst q3
    obtain ⟨y', z1, z2, z3⟩ := paired_get hp h2
    rw [h4] at z1; cases z1
    obtain ⟨_, p', o, e1, e2, _, e3, e4⟩ := z3
    cases e1
    exact ⟨by rw [e2]; exact fun z => (nomatch z), e3, e4⟩
  · obtain ⟨p', q, q2, q3, q4⟩ := R.ob n _ a h1 ha
    rw [h2] at q
    have q := Option.some.inj q
    injection q with q
    have : p = p' := by injection q with q _; injection q
    subst this
    exact ⟨by rw [q2]; exact fun z => (nomatch z), q3, q4⟩
theorem ob_some (R : RelS K w cl W sto H) {a : Addr} (h : a ∈ W.E) : H a ≠ none := by
  obtain ⟨n, hn⟩ := List.mem_iff_getElem?.mp h
  have hl : n < sto.length := by rw [← R.len]; exact (List.getElem?_eq_some_iff.mp hn).1
  have q := R.ob n sto[n] a (List.getElem?_eq_getElem hl) hn
  cases e : sto[n] with
  | ins c fs => rw [e] at q; obtain ⟨C, dx, vs, h3, _⟩ := q; rw [h3]; exact fun z => nomatch z
  | drw cells seed => rw [e] at q; obtain ⟨p, h3, _⟩ := q; rw [h3]; exact fun z => nomatch z
theorem free_new (R : Rel K w cl W env sto σ H) {p : Addr} {o : HO} (h : H p = none) : Free W env sto σ (upd H p o) p := by
  refine ⟨?_, ?_, fun z => ob_some R.s z h, fun n f z => ?_, fun i d h1 h2 => ?_⟩
  · cases e : W.F p with
    | none => rfl
    | some o => exact absurd h (R.s.subF p o e).ne
  · cases e : W.P p with
    | none => rfl
    | some o => rw [R.s.subP p o e] at h; cases h
  · exact (fown_some R.s (fown_back R.s (same_new h) z)).1 h
  · obtain ⟨v, q1, p', o', q2, q3, _⟩ := R.e.cell i _ h1
    rw [h2] at q1
    cases q1
    cases q2
    rw [h] at q3
    cases q3
/-- the world with p frozen -/
def Wd.frz (W : Wd) (p : Addr) (o : HO) : Wd := { W with F := upd W.F p o }
theorem frz_le {p : Addr} {o : HO} (h : W.F p = none) : W.Le (W.frz p o) := ⟨fun a u e => by
  show upd W.F p o a = _
  rw [upd_ne (ne_of_none e h)]
  exact e, fun _ _ h => h⟩
theorem frz_ext {p : Addr} {o : HO} (h : W.F p = none) : W.Ext (W.frz p o) := ⟨frz_le h, rfl, rfl⟩
theorem cellR_frz' {p : Addr} {o : HO} (hF : W.F p = none) {c : Cell} {v : V} (h : CellR K w W H c v) (hne : ∀ d, c = .own d → v ≠ .ref p) : CellR K w (W.frz p o) H c v := by
  cases c with
  | val d => exact rep_mono (frz_le hF) _ _ h
  | own d =>
    obtain ⟨q, o', e1, h1, h2, h3, h4⟩ := h
    refine ⟨q, o', e1, h1, cont_mono (frz_le hF) h2, ?_, h4⟩
    show upd W.F p o q = none
    rw [upd_ne (fun z => hne d rfl (by rw [e1, z]))]
    exact h3
  | lck d =>
    obtain ⟨q, o', u, e1, h1, h0, h2⟩ := h
    exact ⟨q, o', u, e1, h1, h0, cont_mono (frz_le hF) h2⟩
theorem relS_frz (R : RelS K w cl W sto H) {p : Addr} {o : HO} (hH : H p = some o) (hF : W.F p = none) (hP : W.P p = none) (hE : p ∉ W.E) (hown : ∀ n f, ¬ FOwn W sto H n f p) : RelS K w cl (W.frz p o) sto H := by
  refine ⟨fun a u h => ?_, R.subP, R.subL, fun a u h => ?_, fun a u h => ?_, R.len, R.nd, fun a h => ⟨?_, (R.nE a h).2⟩, fun n s a h1 h2 => ?_, R.sep, R.sepE⟩
  · have h : upd W.F p o a = some u := h
    by_cases e : a = p
    · subst e
      rw [upd_same] at h
      cases h
      exact .inl hH
    · rw [upd_ne e] at h
      exact R.subF a u h
  · show upd W.F p o a = none
    rw [upd_ne (fun z => by subst z; rw [show (W.frz a o).P a = W.P a from rfl, hP] at h; cases h)]
    exact R.disj a u h
  · show upd W.F p o a ≠ none
    by_cases e : a = p
    · subst e
      rw [upd_same]
      exact fun z => (nomatch z)
    · rw [upd_ne e]
      exact R.disL a u h
  · show upd W.F p o a = none
    rw [upd_ne (fun z => hE (by rw [← z]; exact h))]
    exact (R.nE a h).1
  · have q := R.ob n s a h1 h2
    cases s with
    | ins c fs =>
      obtain ⟨C, dx, vs, h3, h4, h5⟩ := q
      refine ⟨C, dx, vs, h3, h4, ?_⟩
      refine paired_mem_imp (fun j x y e1 e2 z => ⟨z.1, z.2.1, cellR_frz' hF z.2.2 fun d e3 e4 => ?_⟩) h5
      obtain ⟨x, cx⟩ := x
      obtain ⟨y, vy⟩ := y
      have e3 : cx = .own d := e3
      have e4 : vy = .ref p := e4
      subst e3; subst e4
      exact hown n j ⟨a, h2, .inl ⟨c, fs, x, d, C, dx, vs, y, h1, e1, h3, e2⟩⟩
    | drw cells seed =>
      obtain ⟨q, h3, h4, h5, h6⟩ := q
      refine ⟨q, h3, h4, ?_, h6⟩
      show upd W.F p o q = none
      rw [upd_ne (fun z => hown n 0 ⟨a, h2, .inr ⟨cells, seed, h1, by rw [← z]; exact h3, rfl⟩⟩)]
      exact h5

theorem fown_frz {p : Addr} {o : HO} {n f : Nat} {q : Addr} : FOwn (W.frz p o) sto H n f q ↔ FOwn W sto H n f q := Iff.rfl
theorem rel_frz (R : Rel K w cl W env sto σ H) {p : Addr} {o : HO} (hH : H p = some o) (f : Free W env sto σ H p) : Rel K w cl (W.frz p o) env sto σ H := by
  refine ⟨relS_frz R.s hH f.F f.P f.E f.own, R.e.len, fun i c h => ?_, R.e.sep, R.e.sepF, R.e.sepE⟩
  obtain ⟨v, h1, h2⟩ := R.e.cell i c h
  refine ⟨v, h1, cellR_frz' f.F h2 fun d e1 e2 => ?_⟩
  subst e1; subst e2
  exact f.env i d h h1
/-- what is frozen stands for its datum -/
theorem rep_frz {p : Addr} {o : HO} {d : D} (hF : W.F p = none) (h : Make K w W p d o) : Rep K w (W.frz p o) d (.ref p) := by
  have e : (W.frz p o).F p = some o := upd_same
  rcases h with h | ⟨ds, vs, e1, e2, h⟩
  case inr =>
    subst e1; subst e2
    unfold Rep
    exact ⟨p, vs, rfl, SqT.of e, reps_mono (frz_le hF) _ _ h⟩
  have h := cont_mono (frz_le (o := o) hF) h
  cases d with
  | lst ds =>
    obtain ⟨vs, e1, h⟩ := h
    subst e1
    unfold Rep
    exact ⟨p, vs, rfl, e, h⟩
  | tup ds => exact h.elim
  | dct kvs =>
    unfold Rep
    refine ⟨p, rfl, ?_⟩
    rcases h with ⟨ks, e1, h⟩ | ⟨xs, e1, h⟩
    · exact .inl ⟨ks, by rw [e, e1], h⟩
    · exact .inr ⟨xs, by rw [e, e1], h⟩
  | non => exact h.elim
  | bl => exact h.elim
  | int => exact h.elim
  | str => exact h.elim
  | obj => exact h.elim

/-! ### what a value is, read now -/
variable (K w W)
def Top (H : Hp) (d : D) (v : V) : Prop := Rep K w W d v ∨ ∃ p o, v = .ref p ∧ RdD H p o ∧ Cont K w W p d o
variable {K w W}
theorem Top.mono {d : D} {v : V} (e : W.Le W') (s : Same H H') (h : Top K w W H d v) : Top K w W' H' d v := h.elim (fun h => .inl (rep_mono e _ _ h)) fun ⟨p, o, e1, h1, h2⟩ => .inr ⟨p, o, e1, h1.same s, cont_mono e h2⟩
theorem Top.cell {c : Cell} {v : V} (sP : ∀ a o, W.P a = some o → H a = some o) (h : CellR K w W H c v) : Top K w W H c.d v := by
  cases c with
  | val d => exact .inl h
  | own d => obtain ⟨p, o, e1, h1, h2, _⟩ := h; exact .inr ⟨p, o, e1, .inl h1, h2⟩
  | lck d => obtain ⟨p, o, u, e1, h1, h0, h2⟩ := h; exact .inr ⟨p, u, e1, h0.rd (sP _ _ h1), h2⟩
theorem sqT_sub (sub : ∀ a o, W.F a = some o → RdD H a o) {a : Addr} {vs : List V} (h : SqT K W.F a vs) : SqT K H a vs := by
  rcases h with (h | ⟨o, h⟩) | h
  · exact .inl (sub _ _ h).rd
  · rcases sub _ _ h with z | ⟨z, _⟩
    · exact .inl (.inr ⟨o, z⟩)
    · exact z.elim
  · exact .inr h
theorem Top.lst (sub : ∀ a o, W.F a = some o → RdD H a o) {ds : List D} {v : V} (h : Top K w W H (.lst ds) v) : ∃ a vs, v = .ref a ∧ H a = some (.lst vs) ∧ Reps K w W ds vs := by
  rcases h with h | ⟨p, o, e1, h1, h2⟩
  · unfold Rep at h
    obtain ⟨a, vs, e, h1, h2⟩ := h
    exact ⟨a, vs, e, (sub _ _ h1).lst, h2⟩
  · obtain ⟨vs, e2, h2⟩ := h2
    subst e2
    exact ⟨p, vs, e1, h1.lst, h2⟩
theorem Top.tup (sub : ∀ a o, W.F a = some o → RdD H a o) {ds : List D} {v : V} (h : Top K w W H (.tup ds) v) : ∃ a vs, v = .ref a ∧ SqT K H a vs ∧ Reps K w W ds vs := by
  rcases h with h | ⟨p, o, e1, h1, h2⟩
  · unfold Rep at h
    obtain ⟨a, vs, e, h1, h2⟩ := h
    exact ⟨a, vs, e, sqT_sub sub h1, h2⟩
  · exact h2.elim
theorem Top.tupR {ds : List D} {v : V} (h : Top K w W H (.tup ds) v) : Rep K w W (.tup ds) v := h.elim (fun h => h) fun ⟨_, _, _, _, h⟩ => h.elim
theorem Top.dct (sub : ∀ a o, W.F a = some o → RdD H a o) {kvs : List (D × D)} {v : V} (h : Top K w W H (.dct kvs) v) :
    ∃ a, v = .ref a ∧ ((∃ ks, RdD H a (.dK ks) ∧ RepK K w W kvs ks) ∨ ∃ xs, RdD H a (.ext (TD w a xs)) ∧ RepX K w W kvs xs) := by
  rcases h with h | ⟨p, o, e1, h1, h2⟩
  · unfold Rep at h
    obtain ⟨a, e, h⟩ := h
    refine ⟨a, e, ?_⟩
    rcases h with ⟨ks, h1, h2⟩ | ⟨xs, h1, h2⟩
    · exact .inl ⟨ks, sub _ _ h1, h2⟩
    · exact .inr ⟨xs, sub _ _ h1, h2⟩
  · refine ⟨p, e1, ?_⟩
    rcases h2 with ⟨ks, e2, h2⟩ | ⟨xs, e2, h2⟩
    · subst e2; exact .inl ⟨ks, h1, h2⟩
    · subst e2; exact .inr ⟨xs, h1, h2⟩
theorem Top.flat {d : D} {v : V} (h : Top K w W H d v) : (d = .non → v = .non) ∧ (∀ b, d = .bl b → v = .bl b) ∧ (∀ i, d = .int i → v = .int i) ∧ (∀ x, d = .str x → v = .str x) := by
  rcases h with h | ⟨p, o, e1, h1, h2⟩
  · refine ⟨fun e => ?_, fun b e => ?_, fun i e => ?_, fun x e => ?_⟩ <;> (subst e; simpa [Rep] using h)
  · refine ⟨fun e => ?_, fun b e => ?_, fun i e => ?_, fun x e => ?_⟩ <;> (subst e; exact h2.elim)
theorem Top.int {i : Int} {v : V} (h : Top K w W H (.int i) v) : v = .int i := h.flat.2.2.1 i rfl
theorem Top.str {x : Str} {v : V} (h : Top K w W H (.str x) v) : v = .str x := h.flat.2.2.2 x rfl
theorem Top.bl {b : Bool} {v : V} (h : Top K w W H (.bl b) v) : v = .bl b := h.flat.2.1 b rfl
theorem Top.non {v : V} (h : Top K w W H .non v) : v = .non := h.flat.1 rfl

/-! ### a call: what is ours is kept as it is -/
open Classical in
noncomputable def Wd.lockAll (W : Wd) (env : Env) (σ : St) (H : Hp) : Wd := { W with P := fun a => match W.P a with
  | some o => some o
  | none => if ∃ (i : Nat) (d : D), env[i]? = some (some (.own d)) ∧ σ[i]? = some (some (.ref a)) then H a else none }
theorem lockAll_own (E : RelE K w W env σ sto H) {i : Nat} {d : D} {p : Addr} (h1 : env[i]? = some (some (.own d))) (h2 : σ[i]? = some (some (.ref p))) : (W.lockAll env σ H).P p = H p ∧ W.P p = none := by
  obtain ⟨v, q1, p', o, q2, q3, _, _, q4⟩ := E.cell i _ h1
  rw [h2] at q1
  cases q1
  cases q2
  refine ⟨?_, q4⟩
  show (match W.P p with
    | some o => some o
    | none => _) = _
  rw [q4]
  exact if_pos ⟨i, d, h1, h2⟩
theorem lockAll_old {p : Addr} {o : HO} (h : W.P p = some o) : (W.lockAll env σ H).P p = some o := by
  show (match W.P p with
    | some o => some o
    | none => _) = _
  rw [h]
theorem lockAll_none {p : Addr} (h : W.P p = none) (h2 : ∀ (i : Nat) (d : D), env[i]? = some (some (.own d)) → σ[i]? ≠ some (some (.ref p))) : (W.lockAll env σ H).P p = none := by
  show (match W.P p with
    | some o => some o
    | none => _) = _
  rw [h]
  exact if_neg fun ⟨i, d, e1, e2⟩ => h2 i d e1 e2
theorem le_P (P' : Hp) : W.Le { W with P := P' } := ⟨Same.refl _, fun _ _ h => h⟩
theorem relS_lockAll (R : Rel K w cl W env sto σ H) : RelS K w cl (W.lockAll env σ H) sto H := by
  have le : W.Le (W.lockAll env σ H) := le_P _
  refine ⟨R.s.subF, fun a o h => ?_, R.s.subL, fun a o h => ?_, R.s.disL, R.s.len, R.s.nd, fun a h => ⟨(R.s.nE a h).1, lockAll_none (R.s.nE a h).2 fun i d e1 e2 => R.e.sepE i d a e1 e2 h⟩, fun n s a h1 h2 => ?_, R.s.sep, R.s.sepE⟩
  · have h : (match W.P a with
      | some o => some o
      | none => _) = some o := h
    cases q : W.P a with
    | some u =>
      rw [q] at h
      cases h
      exact R.s.subP a o q
    | none =>
      rw [q] at h
      simp only at h
      split at h
      · exact h
      · cases h
  · show W.F a = none
    cases q : W.P a with
    | some u => exact R.s.disj a u q
    | none =>
      have h : (match W.P a with
        | some o => some o
        | none => _) = some o := h
      rw [q] at h
      simp only at h
      split at h
      · rename_i z
        obtain ⟨i, d, e1, e2⟩ := z
        obtain ⟨v, q1, p', o', q2, q3, _, q5, _⟩ := R.e.cell i _ e1
        rw [e2] at q1
        cases q1
        cases q2
        exact q5
      · cases h
  · have q := R.s.ob n s a h1 h2
    cases s with
    | ins c fs =>
      obtain ⟨C, dx, vs, h3, h4, h5⟩ := q
      refine ⟨C, dx, vs, h3, h4, paired_mem_imp (fun j x y e1 e2 z => ⟨z.1, z.2.1, ?_⟩) h5⟩
      obtain ⟨x, cx⟩ := x
      obtain ⟨y, vy⟩ := y
      have z3 : CellR K w W H cx vy := z.2.2
      cases cx with
      | val d => exact rep_mono le d _ z3
      | own d =>
        obtain ⟨p, o, g1, g2, g3, g4, g5⟩ := z3
        subst g1
        exact ⟨p, o, rfl, g2, cont_mono le g3, g4, lockAll_none g5 fun i d' e3 e4 => R.e.sepF i d' p n j e3 e4 ⟨a, h2, .inl ⟨c, fs, x, d, C, dx, vs, y, h1, e1, h3, e2⟩⟩⟩
      | lck d => exact z.2.1.elim
    | drw cells seed =>
      obtain ⟨p, h3, h4, h5, h6⟩ := q
      exact ⟨p, h3, h4, h5, lockAll_none h6 fun i d' e3 e4 => R.e.sepF i d' p n 0 e3 e4 ⟨a, h2, .inr ⟨cells, seed, h1, h3, rfl⟩⟩⟩
theorem rel_back (R : Rel K w cl W env sto σ H) {sto' : Sto} (le : (W.lockAll env σ H).Le W') (hP : W'.P = (W.lockAll env σ H).P) (hL : W'.L = W.L) (R' : RelS K w cl W' sto' H') :
    Rel K w cl { W' with P := W.P } env sto' σ H' := by
  have le' : W.Le { W' with P := W.P } := ⟨le.1, le.2⟩
  have le2 : W'.Le { W' with P := W.P } := le_P _
  have key : ∀ (i : Nat) (d : D) (p : Addr), env[i]? = some (some (.own d)) → σ[i]? = some (some (.ref p)) → W'.P p = H p ∧ H p ≠ none := fun i d p h1 h2 => by
    obtain ⟨v, q1, p', o, q2, q3, _⟩ := R.e.cell i _ h1
    rw [h2] at q1
    cases q1
    cases q2
    exact ⟨by rw [hP, (lockAll_own R.e h1 h2).1], by rw [q3]; exact fun z => (nomatch z)⟩
  have pn : ∀ p, W'.P p = none → W.P p = none := fun p h => by
    cases q : W.P p with
    | none => rfl
    | some o =>
      rw [hP, lockAll_old q] at h
      cases h
  refine ⟨⟨R'.subF, fun a o h => R'.subP a o (by rw [hP]; exact lockAll_old h), R'.subL, fun a o h => R'.disj a o (by rw [hP]; exact lockAll_old h), R'.disL, R'.len, R'.nd, fun a h => ⟨(R'.nE a h).1, pn a (R'.nE a h).2⟩, fun n s a h1 h2 => ?_, R'.sep, R'.sepE⟩, R.e.len, fun i c h => ?_, R.e.sep, fun i d p n f h1 h2 h3 => ?_, fun i d p h1 h2 h3 => ?_⟩
  · have q := R'.ob n s a h1 h2
    cases s with
    | ins c fs =>
      obtain ⟨C, dx, vs, h3, h4, h5⟩ := q
      refine ⟨C, dx, vs, h3, h4, paired_imp (fun x y z => ⟨z.1, z.2.1, ?_⟩) h5⟩
      obtain ⟨x, cx⟩ := x
      obtain ⟨y, vy⟩ := y
      have z3 : CellR K w W' H' cx vy := z.2.2
      cases cx with
      | val d => exact rep_mono le2 d _ z3
      | own d =>
        obtain ⟨p, o, g1, g2, g3, g4, g5⟩ := z3
        exact ⟨p, o, g1, g2, cont_mono le2 g3, g4, pn p g5⟩
      | lck d => exact z.2.1.elim
    | drw cells seed =>
      obtain ⟨p, h3, h4, h5, h6⟩ := q
      exact ⟨p, h3, h4, h5, pn p h6⟩
  · obtain ⟨v, q1, q2⟩ := R.e.cell i c h
    refine ⟨v, q1, ?_⟩
    cases c with
    | val d => exact rep_mono le' d v q2
    | own d =>
      obtain ⟨p, o, g1, g2, g3, g4, g5⟩ := q2
      subst g1
      obtain ⟨k1, k2⟩ := key i d p h q1
      have k3 : W'.P p = some o := by rw [k1, g2]
      refine ⟨p, o, rfl, R'.subP p o k3, cont_mono le' g3, R'.disj p o k3, g5⟩
    | lck d =>
      obtain ⟨p, o, u, g1, g2, g0, g3⟩ := q2
      exact ⟨p, o, u, g1, g2, g0, cont_mono le' g3⟩
  · obtain ⟨k1, k2⟩ := key i d p h1 h2
    exact k2 (by rw [← k1]; exact (fown_some R' h3).2.2)
  · obtain ⟨k1, k2⟩ := key i d p h1 h2
    exact k2 (by rw [← k1]; exact (R'.nE p h3).2)
end
end PI
/-! the plain evaluator -/
namespace PI
open PySem L2

/-! ### operations on data -/
mutual
def D.py : D → Option PyData
  | .non => some .none
  | .bl b => some (.bool b)
  | .int i => some (.int i)
  | .str x => some (.str x)
  | .lst xs => (D.pys xs).map .list
  | .tup xs => (D.pys xs).map .tuple
  | _ => none
def D.pys : List D → Option (List PyData)
  | [] => some []
  | x :: r => match D.py x, D.pys r with
    | some a, some b => some (a :: b)
    | _, _ => none
end
mutual
/-- equality of plain data -/
def D.beq : D → D → Bool
  | .non, .non => true
  | .bl a, .bl b => a == b
  | .bl a, .int j => (if a then 1 else 0) == j
  | .int i, .bl b => i == (if b then 1 else 0)
  | .int i, .int j => i == j
  | .str x, .str y => decide (x = y)
  | .lst xs, .lst ys => D.beqs xs ys
  | .tup xs, .tup ys => D.beqs xs ys
  | _, _ => false
def D.beqs : List D → List D → Bool
  | [], [] => true
  | x :: xs, y :: ys => D.beq x y && D.beqs xs ys
  | _, _ => false
end
mutual
/-- data that == is asked of: no dicts, no objects, right texts, not deep -/
def D.fitN : Nat → D → Bool
  | _, .non | _, .bl _ | _, .int _ => true
  | _, .str x => x.cps.all (· < 0x110000)
  | n + 1, .lst xs | n + 1, .tup xs => D.fitNs n xs
  | _, _ => false
def D.fitNs : Nat → List D → Bool
  | _, [] => true
  | n, x :: r => D.fitN n x && D.fitNs n r
end
def D.fit (d : D) : Bool := D.fitN 60 d
def D.flat : D → Bool
  | .non | .bl _ | .int _ | .str _ => true
  | _ => false
/-- x == y, for flat things of any text, else for data that fit -/
def dEq (x y : D) : Option Bool :=
  if x.flat && y.flat then some (D.beq x y) else if x.fit && y.fit then some (D.beq x y) else none

def LIM : Nat := 16777216
inductive BOp where | add | sub | mul | fdiv | mod
inductive COp where | eq | ne | lt | le | gt | ge | isin | notin | is | isnot
def dAdd : D → D → Option D
  | .int i, .int j => some (.int (i + j))
  | .str x, .str y => if x.length + y.length ≤ LIM then some (.str (x ++ y)) else none
  | .lst xs, .lst ys => if xs.length + ys.length ≤ LIM then some (.lst (xs ++ ys)) else none
  | .tup xs, .tup ys => if xs.length + ys.length ≤ LIM then some (.tup (xs ++ ys)) else none
  | _, _ => none
def dSub : D → D → Option D
  | .int i, .int j => some (.int (i - j))
  | _, _ => none
/-- |i| < n, so told that nothing great is counted down -/
def near (n : Nat) (i : Int) : Bool := Nat.blt i.natAbs n
theorem near_iff {n : Nat} {i : Int} (h : near n i = true) : -(n : Int) < i ∧ i < n := by
  unfold near Nat.blt at h
  have h := Nat.le_of_ble_eq_true h
  omega
theorem near_of {n : Nat} {i : Int} (h1 : -(n : Int) < i) (h2 : i < n) : near n i = true := by
  unfold near Nat.blt
  exact Nat.ble_eq_true_of_le (by omega)
def small (i : Int) : Bool := near 18446744073709551616 i
def dMul : D → D → Option D
  | .int i, .int j => if small i || small j then some (.int (i * j)) else none
  | _, _ => none
def dFdiv : D → D → Option D
  | .int i, .int j => if 0 < j ∧ near 1073741824 j = true then some (.int (i / j)) else none
  | _, _ => none
def dMod : D → D → Option D
  | .int i, .int j => if 0 < j then some (.int (i % j)) else none
  | _, _ => none
def dBin : BOp → D → D → Option D
  | .add => dAdd | .sub => dSub | .mul => dMul | .fdiv => dFdiv | .mod => dMod
def lexB : List Int → List Int → Bool
  | [], [] => false
  | [], _ :: _ => true
  | _ :: _, [] => false
  | x :: xs, y :: ys => if x = y then lexB xs ys else decide (x < y)
def D.ints : List D → Option (List Int)
  | [] => some []
  | .int i :: r => (D.ints r).map (i :: ·)
  | _ :: _ => none
def dLt : D → D → Option Bool
  | .int i, .int j => some (decide (i < j))
  | .str x, .str y => some (decide (x.cps.toList < y.cps.toList))
  | .tup xs, .tup ys => match D.ints xs, D.ints ys with
    | some ns, some ms => some (lexB ns ms)
    | _, _ => none
  | _, _ => none
def dLe : D → D → Option Bool
  | .int i, .int j => some (decide (i ≤ j))
  | _, _ => none
/-- where an item is at -/
def ixOf (n : Nat) (i : Int) : Option Nat := if 0 ≤ i then (if i < n then some i.toNat else none) else if -(n : Int) ≤ i then some (i + n).toNat else none
def lookD : List (D × D) → D → Option D
  | [], _ => none
  | (k, v) :: r, x => if D.beq k x then some v else lookD r x
/-- all keys are of one kind with x: whole numbers and texts, or tuples of plain data -/
def keyKind : D → Nat
  | .int _ | .str _ => 1
  | .tup _ => 2
  | _ => 0
def keyOk (kvs : List (D × D)) (x : D) : Bool := match kvs with
  | [] => keyKind x != 0 && (keyKind x == 1 || (nkOf x).elim false (·.depth ≤ 8))
  | (k, _) :: _ => keyKind x != 0 && keyKind x == keyKind k && (keyKind x == 1 || (nkOf x).elim false (·.depth ≤ 8))
def anyEq : List D → D → Option Bool
  | [], _ => some false
  | y :: r, x => match dEq y x with
    | some true => some true
    | some false => anyEq r x
    | none => none
/-- x in c -/
def dIn (x : D) : D → Option Bool
  | .lst ys => if x.flat && ys.all D.flat then some (ys.any fun y => D.beq y x) else if x.fit && D.fitNs 60 ys then some (ys.any fun y => D.beq y x) else none
  | .tup ys => if x.flat && ys.all D.flat then some (ys.any fun y => D.beq y x) else if x.fit && D.fitNs 60 ys then some (ys.any fun y => D.beq y x) else none
  | .str y => match x with
    | .str z => if z.length = 1 then some (decide (z.cps.toList.headD 0 ∈ y.cps.toList)) else none
    | _ => none
  | _ => none
def D.isNon : D → Bool
  | .non => true
  | _ => false
def dCmp (op : COp) (x y : D) : Option Bool := match op with
  | .eq => dEq x y
  | .ne => (dEq x y).map (!·)
  | .lt => dLt x y
  | .gt => match x, y with
    | .int i, .int j => some (decide (j < i))
    | _, _ => none
  | .le => dLe x y
  | .ge => match x, y with
    | .int i, .int j => some (decide (j ≤ i))
    | _, _ => none
  | .isin => dIn x y
  | .notin => (dIn x y).map (!·)
  | .is => if y.isNon then some x.isNon else none
  | .isnot => if y.isNon then some (!x.isNon) else none
def dIdx : D → D → Option D
  | .lst xs, .int i => (ixOf xs.length i).bind fun j => xs[j]?
  | .tup xs, .int i => (ixOf xs.length i).bind fun j => xs[j]?
  | .str x, .int i => if x.length ≤ LIM then (ixOf x.length i).bind fun j => x.cps.toList[j]?.map fun c => .str ⟨#[c]⟩ else none
  | _, _ => none
/-- where a part of a slice stands -/
def cutIx (n d : Nat) : Option Int → Nat
  | none => d
  | some v => if v < 0 then (v + (n : Int)).toNat else min v.toNat n
def cutL {α : Type} (xs : List α) (lo hi : Option Int) : List α := (xs.drop (cutIx xs.length 0 lo)).take (cutIx xs.length xs.length hi - cutIx xs.length 0 lo)
def dCut (x : D) (lo hi : Option Int) : Option D := match x with
  | .lst xs => some (.lst (cutL xs lo hi))
  | .tup xs => some (.tup (cutL xs lo hi))
  | .str x => if x.length ≤ LIM then some (.str ⟨(cutL x.cps.toList lo hi).toArray⟩) else none
  | _ => none
def putD : List (D × D) → D → D → List (D × D)
  | [], x, v => [(x, v)]
  | (k, u) :: r, x, v => if D.beq k x then (k, v) :: r else (k, u) :: putD r x v
def dropD (kvs : List (D × D)) (x : D) : List (D × D) := kvs.filter fun p => !D.beq p.1 x
def D.bools : List D → Option (List Bool)
  | [] => some []
  | .bl i :: r => (D.bools r).map (i :: ·)
  | _ :: _ => none
def D.strs : List D → Option (List Str)
  | [] => some []
  | .str i :: r => (D.strs r).map (i :: ·)
  | _ :: _ => none

/-! ### built-in functions -/
inductive BI where
  | len | list | tuple | int | str | any | all | sum | min2 | max2 | abs | ord
def dLen : D → Option D
  | .lst xs | .tup xs => some (.int xs.length)
  | .str x => if x.length ≤ LIM then some (.int x.length) else none
  | _ => none
def dFn1 : BI → D → Option D
  | .len, x => dLen x
  | .list, .lst xs => some (.lst xs)
  | .list, .tup xs => some (.lst xs)
  | .tuple, .lst xs => some (.tup xs)
  | .tuple, .tup xs => some (.tup xs)
  | .int, .int i => some (.int i)
  | .int, .bl b => some (.int (if b then 1 else 0))
  | .str, .int i => if i.natAbs.log2 < 1920 then some (.str (toString i)) else none
  | .any, .lst xs => (D.bools xs).map fun bs => .bl (bs.any id)
  | .all, .lst xs => (D.bools xs).map fun bs => .bl (bs.all id)
  | .sum, .lst xs => (D.ints xs).map fun ns => .int ns.sum
  | .abs, .int i => some (.int (if i < 0 then -i else i))
  | .ord, .str x => if x.length = 1 then some (.int (x.cps.getD 0 0 : Nat)) else none
  | _, _ => none
def dFn2 : BI → D → D → Option D
  | .min2, .int i, .int j => some (.int (if j < i then j else i))
  | .max2, .int i, .int j => some (.int (if j > i then j else i))
  | _, _, _ => none
inductive TyN where | bool | int | str | list | tuple
def dIsi : TyN → D → Option Bool
  | _, .obj _ => none
  | _, .dct _ => none
  | .bool, .bl _ => some true
  | .int, .bl _ => some true
  | .int, .int _ => some true
  | .str, .str _ => some true
  | .list, .lst _ => some true
  | .tuple, .tup _ => some true
  | _, _ => some false

/-! ### what code does -/
inductive Tg where
  | n (i : Nat) | t (is : List Nat)
/-- what a field's own container is asked to do -/
inductive FM where
  | append | pop0 | popAt | insert
inductive Out where
  | nx (e : Env) (s : Sto) | ct (e : Env) (s : Sto) | bk (e : Env) (s : Sto) | rt (d : D) (s : Sto)
/-- the classes: their methods, their __init__, what is an attribute -/
structure Tab where
  mt : Nat → Str → Option Nat
  ini : Nat → Option Nat
  fl : Nat → Str → Bool

def setFd (f : Str) (c : Cell) : List (Str × Cell) → List (Str × Cell)
  | [] => [(f, c)]
  | (g, x) :: r => if g = f then (g, c) :: r else (g, x) :: setFd f c r
def tgSet : Tg → D → Env → Option Env
  | .n i, d, env => some (env.set i (some (.val d)))
  | .t is, .tup ds, env => if is.length = ds.length then some ((is.zip ds).foldl (fun e p => e.set p.1 (some (.val p.2))) env) else none
  | _, _, _ => none
abbrev Run := Nat → List Cell → Sto → Option (D × Sto)
def strIts (x : Str) : List D := x.cps.toList.map fun c => .str ⟨#[c]⟩
def itsOf : D → Option (List D)
  | .lst xs | .tup xs => some xs
  | .str x => some (strIts x)
  | _ => none
def rngIts (a b : Int) : List D := (List.range (b - a).toNat).map fun (k : Nat) => D.int (a + k)
def okR (i : Int) : Bool := near 4611686018427387904 i
theorem okR_iff {i : Int} (h : okR i = true) : -(2 ^ 62) ≤ i ∧ i < 2 ^ 62 := by
  have := near_iff h
  omega


abbrev Fe := Env → Sto → Option (D × Sto)
abbrev Fl := Env → Sto → Option (List D × Sto)
def f1 (f : Fe) (k : D → Option D) : Fe := fun env s => match f env s with
  | some (a, s) => (k a).map (·, s)
  | none => none
def f2 (f g : Fe) (k : D → D → Option D) : Fe := fun env s => match f env s with
  | some (a, s) => match g env s with
    | some (b, s) => (k a b).map (·, s)
    | none => none
  | none => none
def fVar (i : Nat) : Fe := fun env s => match env[i]? with
  | some (some (.val d)) => some (d, s)
  | _ => none
def fB (i : Nat) : Fe := fun env s => match env[i]? with
  | some (some c) => some (c.d, s)
  | _ => none
def fldOf (fl : Nat → Str → Bool) (x : Str) (f : Fe) (own : Bool) : Fe := fun env s => match f env s with
  | some (.obj n, s) => match s[n]? with
    | some (.ins c fs) => if fl c x then match fs.lookup x with
      | some (.val d) => some (d, s)
      | some c => if own then some (c.d, s) else none
      | none => none else none
    | _ => none
  | _ => none
def fNeg (f : Fe) : Fe := f1 f fun x => match x with
  | .int i => some (.int (-i))
  | _ => none
def fChn (p q : D → D → Option Bool) (f g h : Fe) : Fe := fun env s => match f env s with
  | some (a, s) => match g env s with
    | some (b, s) => match p a b with
      | some true => match h env s with
        | some (c, s) => (q b c).map (.bl ·, s)
        | none => none
      | some false => some (.bl false, s)
      | none => none
    | none => none
  | none => none
def fNot (f : Fe) : Fe := fun env s => match f env s with
  | some (.bl b, s) => some (.bl (!b), s)
  | _ => none
def fAnd (f g : Fe) : Fe := fun env s => match f env s with
  | some (.bl true, s) => g env s
  | some (.bl false, s) => some (.bl false, s)
  | _ => none
def fOr (f g : Fe) : Fe := fun env s => match f env s with
  | some (.bl true, s) => some (.bl true, s)
  | some (.bl false, s) => g env s
  | _ => none
def fIf (t f g : Fe) : Fe := fun env s => match t env s with
  | some (.bl true, s) => f env s
  | some (.bl false, s) => g env s
  | _ => none
def fCons (f : Fe) (g : Fl) : Fl := fun env s => match f env s with
  | some (d, s) => match g env s with
    | some (ds, s) => some (d :: ds, s)
    | none => none
  | none => none
def fTup (g : Fl) : Fe := fun env s => match g env s with
  | some (ds, s) => if ds.length ≤ LIM then some (.tup ds, s) else none
  | none => none
def fLst (g : Fl) : Fe := fun env s => match g env s with
  | some (ds, s) => if ds.length ≤ LIM then some (.lst ds, s) else none
  | none => none
abbrev Fo := Env → Sto → Option (Option Int × Sto)
def fPart (f : Fe) : Fo := fun env s => match f env s with
  | some (.int i, s) => some (some i, s)
  | _ => none
def fCut (f : Fe) (g h : Fo) : Fe := fun env s => match f env s with
  | some (a, s) => match g env s with
    | some (l, s) => match h env s with
      | some (u, s) => (dCut a l u).map (·, s)
      | none => none
    | none => none
  | none => none
abbrev Fa := Env → Sto → Option (List Cell × Sto)
def lk : Cell → Cell
  | .own d => .lck d
  | c => c
/-- a borrowed name is handed in locked -/
def aB (i : Nat) (g : Fa) : Fa := fun env s => match env[i]? with
  | some (some c) => match g env s with
    | some (cs, s) => some (lk c :: cs, s)
    | none => none
  | _ => none
def aV (f : Fe) (g : Fa) : Fa := fun env s => match f env s with
  | some (d, s) => match g env s with
    | some (cs, s) => some (.val d :: cs, s)
    | none => none
  | none => none
def fCall (R : Run) (i : Nat) (g : Fa) : Fe := fun env s => match g env s with
  | some (cs, s) => R i cs s
  | none => none
def fMeth (T : Tab) (R : Run) (m : Str) (f : Fe) (g : Fa) : Fe := fun env s => match f env s with
  | some (.obj n, s) => match s[n]? with
    | some (.ins c fs) => match fs.lookup m, T.mt c m with
      | none, some i => match g env s with
        | some (cs, s) => R i (.val (.obj n) :: cs) s
        | none => none
      | _, _ => none
    | _ => none
  | _ => none
def fMk (T : Tab) (R : Run) (c : Nat) (g : Fa) : Fe := fun env s => match g env s with
  | some (cs, s) => match T.ini c with
    | some i => match R i (.val (.obj s.length) :: cs) (s ++ [.ins c []]) with
      | some (.non, s') => some (.obj s.length, s')
      | _ => none
    | none => none
  | none => none
def dFm (m : FM) (ys : List D) (ds : List D) : Option (D × List D) := match m, ds with
  | .append, [d] => if ys.length < LIM then some (.non, ys ++ [d]) else none
  | .pop0, [] => match ys[ys.length - 1]? with
    | some y => some (y, ys.dropLast)
    | none => none
  | .popAt, [.int i] => if okR i then match ixOf ys.length i with
      | some j => match ys[j]? with
        | some y => some (y, ys.eraseIdx j)
        | none => none
      | none => none
    else none
  | .insert, [.int i, d] => if i = 0 ∧ ys.length < LIM then some (.non, d :: ys) else none
  | _, _ => none
def fFm (fl : Nat → Str → Bool) (m : FM) (f : Fe) (x : Str) (g : Fl) : Fe := fun env s => match f env s with
  | some (.obj n, s) => match s[n]? with
    | some (.ins c fs) => if fl c x then match fs.lookup x with
      | some (.own (.lst _)) => match g env s with
        | some (ds, s) => match s[n]? with
          | some (.ins c fs) => match fs.lookup x with
            | some (.own (.lst ys)) => match dFm m ys ds with
              | some (r, ys') => some (r, s.set n (.ins c (setFd x (.own (.lst ys')) fs)))
              | none => none
            | _ => none
          | _ => none
        | none => none
      | _ => none else none
    | _ => none
  | _ => none
def fNil : Fl := fun _ s => some ([], s)
def aNil : Fa := fun _ s => some ([], s)
def oNil : Fo := fun _ s => some (none, s)
def fC (d : D) : Fe := fun _ s => some (d, s)
def fBin (op : BOp) (f g : Fe) : Fe := f2 f g (dBin op)
def fCmp (op : COp) (f g : Fe) : Fe := f2 f g fun a b => (dCmp op a b).map .bl

/-! ### statements -/
abbrev Fs := Env → Sto → Option Out
def xSeq (f g : Fs) : Fs := fun env s => match f env s with
  | some (.nx e s) => g e s
  | r => r
def xAsg (t : Tg) (f : Fe) : Fs := fun env s => match f env s with
  | some (d, s) => (tgSet t d env).map (.nx · s)
  | none => none
def D.isLD : D → Bool
  | .lst _ | .dct _ => true
  | _ => false
/-- a container of our own -/
def xOwn (i : Nat) (f : Fe) : Fs := fun env s => match f env s with
  | some (d, s) => if d.isLD then some (.nx (env.set i (some (.own d))) s) else none
  | none => none
def xSet (fl : Nat → Str → Bool) (own : Bool) (f : Fe) (x : Str) (g : Fe) : Fs := fun env s => match g env s with
  | some (d, s) => match f env s with
    | some (.obj n, s) => match s[n]? with
      | some (.ins c fs) => if fl c x && decide (fs.length < 900) && (!own || d.isLD) then some (.nx env (s.set n (.ins c (setFd x (if own then .own d else .val d) fs)))) else none
      | _ => none
    | _ => none
  | none => none
def xExpr (f : Fe) : Fs := fun env s => match f env s with
  | some (_, s) => some (.nx env s)
  | none => none
def xRet (f : Fe) : Fs := fun env s => match f env s with
  | some (d, s) => some (.rt d s)
  | none => none
/-- return of a container of our own -/
def xRetv (i : Nat) : Fs := fun env s => match env[i]? with
  | some (some (.own d)) => some (.rt d s)
  | _ => none
def xIf (t : Fe) (f g : Fs) : Fs := fun env s => match t env s with
  | some (.bl true, s) => f env s
  | some (.bl false, s) => g env s
  | _ => none
def setT : Option Nat → D → Env → Env
  | none, _, e => e
  | some j, r, e => e.set j (some (.val r))
/-- a method of a container of our own, as a statement: t = x.m(..) -/
def xSm (t : Option Nat) (m : FM) (i : Nat) (g : Fl) : Fs := fun env s => match g env s with
  | some (ds, s) => match env[i]? with
    | some (some (.own (.lst ys))) => match dFm m ys ds with
      | some (r, ys') => some (.nx (setT t r (env.set i (some (.own (.lst ys'))))) s)
      | none => none
    | _ => none
  | none => none
/-- x[k] = e of a list of our own -/
def xLput (i : Nat) (k f : Fe) : Fs := fun env s => match f env s with
  | some (d, s) => match k env s with
    | some (.int j, s) => match env[i]? with
      | some (some (.own (.lst ys))) => match ixOf ys.length j with
        | some n => some (.nx (env.set i (some (.own (.lst (ys.set n d))))) s)
        | none => none
      | _ => none
    | _ => none
  | none => none
def forL (t : Tg) (f : Fs) : List D → Fs
  | [], env, s => some (.nx env s)
  | d :: r, env, s => match tgSet t d env with
    | some e => match f e s with
      | some (.nx e s) | some (.ct e s) => forL t f r e s
      | some (.bk e s) => some (.nx e s)
      | some (.rt d s) => some (.rt d s)
      | none => none
    | none => none
def whileN (t : Fe) (f : Fs) : Nat → Fs
  | 0, _, _ => none
  | n + 1, env, s => match t env s with
    | some (.bl true, s) => match f env s with
      | some (.nx e s) | some (.ct e s) => whileN t f n e s
      | some (.bk e s) => some (.nx e s)
      | some (.rt d s) => some (.rt d s)
      | none => none
    | some (.bl false, s) => some (.nx env s)
    | _ => none
abbrev Fi := Env → Sto → Option (List D × Sto)
def iL (f : Fe) : Fi := fun env s => match f env s with
  | some (.lst ds, s) => some (ds, s)
  | _ => none
def iT (f : Fe) : Fi := fun env s => match f env s with
  | some (.tup ds, s) => some (ds, s)
  | _ => none
def iS (f : Fe) : Fi := fun env s => match f env s with
  | some (.str x, s) => some (strIts x, s)
  | _ => none
/-- a list of the caller's, as a name -/
def iB (i : Nat) : Fi := fun env s => match env[i]? with
  | some (some (.val (.lst ds))) => some (ds, s)
  | some (some (.lck (.lst ds))) => some (ds, s)
  | _ => none
def iRng1 (f : Fe) : Fi := fun env s => match f env s with
  | some (.int b, s) => if okR b then some (rngIts 0 b, s) else none
  | _ => none
def iRng2 (f g : Fe) : Fi := fun env s => match f env s with
  | some (.int a, s) => match g env s with
    | some (.int b, s) => if okR a && okR b then some (rngIts a b, s) else none
    | _ => none
  | _ => none
def xFor (t : Tg) (i : Fi) (f : Fs) : Fs := fun env s => match i env s with
  | some (ds, s) => forL t f ds env s
  | none => none
def FUEL : Nat := 1000000
def xWhile (t : Fe) (f : Fs) : Fs := fun env s => whileN t f FUEL env s
def xBrk : Fs := fun env s => some (.bk env s)
def xCnt : Fs := fun env s => some (.ct env s)
def xPas : Fs := fun env s => some (.nx env s)
def xRetn : Fs := fun _ s => some (.rt .non s)
/-- a def of the text: how many parameters and names, does it hand back what is the caller's alone, its body -/
structure Fn where
  np : Nat
  ns : Nat
  ro : Bool
  body : Run → Fs
/-- a def of the text, called -/
def runFn (fn : Fn) (R : Run) (cs : List Cell) (s : Sto) : Option (D × Sto) :=
  if cs.length = fn.np then match fn.body R (cs.map some ++ List.replicate (fn.ns - fn.np) none) s with
    | some (.rt d s) => some (d, s)
    | some (.nx _ s) => some (.non, s)
    | _ => none
  else none
/-- calls, so deep -/
def run (FT : Nat → Option Fn) (prim : Nat → Option (List Cell → Sto → Option (D × Sto))) : Nat → Run
  | 0, _, _, _ => none
  | k + 1, i, cs, s => match prim i with
    | some p => p cs s
    | none => match FT i with
      | some fn => runFn fn (run FT prim k) cs s
      | none => none
end PI
/-! judgements about expressions, by data -/
namespace PI
open PySem L2

inductive Md where | s | t | n | b
def D.ld : D → Bool
  | .lst _ | .dct _ => true
  | _ => false
section
variable (K : PySem.W.Frag) (w : World) (cl : Nat → Option Addr)
def Res (m : Md) (W : Wd) (env : Env) (sto : Sto) (σ : St) (H : Hp) (d : D) (v : V) : Prop := match m with
  | .s => Rep K w W d v
  | .t => Top K w W H d v
  | .n => (Rep K w W d v ∧ d.ld = false) ∨ ∃ p o, v = .ref p ∧ H p = some o ∧ Make K w W p d o ∧ Free W env sto σ H p
  | .b => Rep K w W d v ∨ ∃ (i : Nat) (c : Cell), env[i]? = some (some c) ∧ c.d = d ∧ σ[i]? = some (some v)
def tE (m : Md) (f : Env → Sto → Option (D × Sto)) : TE := fun σ H Q => ∃ W env sto d sto', Rel K w cl W env sto σ H ∧ f env sto = some (d, sto') ∧
  ∀ W' H' v, W.Ext W' → Rel K w cl W' env sto' σ H' → Res K w m W' env sto' σ H' d v → Q v H'
/-- .. that only makes things -/
def tP (f : Env → Sto → Option (D × Sto)) : TE := fun σ H Q => ∃ W env sto d, Rel K w cl W env sto σ H ∧ f env sto = some (d, sto) ∧
  ∀ W' H' v, W.Ext W' → Same H H' → Rel K w cl W' env sto σ H' → Rep K w W' d v → Q v H'
def tT (f : Env → Sto → Option (D × Sto)) : TT := fun σ H Q => ∃ W env sto b sto', Rel K w cl W env sto σ H ∧ f env sto = some (.bl b, sto') ∧
  ∀ W' H', W.Ext W' → Rel K w cl W' env sto' σ H' → Q b H'
def tA (f : Env → Sto → Option (List D × Sto)) : TA := fun σ H Q => ∃ W env sto ds sto', Rel K w cl W env sto σ H ∧ f env sto = some (ds, sto') ∧
  ∀ W' H' vs, W.Ext W' → Rel K w cl W' env sto' σ H' → Reps K w W' ds vs → Q vs H'
/-- two operands, both read when both are there -/
def t2 (f : Env → Sto → Option (D × Sto)) (g : Env → Sto → Option (D × Sto)) : St → Hp → (V → V → Hp → Prop) → Prop := fun σ H Q => ∃ W env sto a s1 b s2, Rel K w cl W env sto σ H ∧ f env sto = some (a, s1) ∧ g env s1 = some (b, s2) ∧
  ∀ W' H' x y, W.Ext W' → Rel K w cl W' env s2 σ H' → Top K w W' H' a x → Top K w W' H' b y → Q x y H'
end
section
variable (X : Cx) (cl : Nat → Option Addr)
abbrev PEv (m : Md) (e : Expr) (f : Env → Sto → Option (D × Sto)) : Prop := PE X e (tE X.K X.w cl m f)
abbrev PEp (e : Expr) (f : Env → Sto → Option (D × Sto)) : Prop := PE X e (tP X.K X.w cl f)
abbrev PTv (e : Expr) (f : Env → Sto → Option (D × Sto)) : Prop := PT X e (tT X.K X.w cl f)
abbrev PWv (e : Expr) (f : Env → Sto → Option (D × Sto)) : Prop := PW X e (tT X.K X.w cl f)
abbrev PAv (es : List Expr) (f : Env → Sto → Option (List D × Sto)) : Prop := PA X es (tA X.K X.w cl f)
def Two (a b : Expr) (f g : Env → Sto → Option (D × Sto)) : Prop := ∃ ta tb, PE X a ta ∧ PE X b tb ∧ ∀ σ H Q, t2 X.K X.w cl f g σ H Q → ta σ H fun x H1 => tb σ H1 fun y H2 => Q x y H2
end
theorem PE.imp {X : Cx} {e : Expr} {t t' : TE} (h : PE X e t) (i : ∀ σ H Q, t' σ H Q → t σ H Q) : PE X e t' := ⟨fun pins s σ H Q I q => h.run pins s σ H Q I (i σ H Q q)⟩
theorem PT.imp {X : Cx} {e : Expr} {t t' : TT} (h : PT X e t) (i : ∀ σ H Q, t' σ H Q → t σ H Q) : PT X e t' := ⟨fun pins s σ H Q I q => h.run pins s σ H Q I (i σ H Q q)⟩
theorem PW.imp {X : Cx} {e : Expr} {t t' : TT} (h : PW X e t) (i : ∀ σ H Q, t' σ H Q → t σ H Q) : PW X e t' := ⟨fun wh pins s σ H Q I q => h.run wh pins s σ H Q I (i σ H Q q)⟩
theorem PA.imp {X : Cx} {e : List Expr} {t t' : TA} (h : PA X e t) (i : ∀ σ H Q, t' σ H Q → t σ H Q) : PA X e t' := ⟨fun pos pins s σ H Q I q => h.run pos pins s σ H Q I (i σ H Q q)⟩
theorem PS.imp {X : Cx} {e : Stmt} {t t' : TS} (h : PS X e t) (i : ∀ D σ H, t' D σ H → t D σ H) : PS X e t' := ⟨fun pins s σ H D I q => h.run pins s σ H D I (i D σ H q)⟩
theorem PSs.imp {X : Cx} {e : List Stmt} {t t' : TS} (h : PSs X e t) (i : ∀ D σ H, t' D σ H → t D σ H) : PSs X e t' := ⟨fun pins s σ H D I q => h.run pins s σ H D I (i D σ H q)⟩

section
variable {X : Cx} {cl : Nat → Option Addr} {e a b : Expr} {f g fa fb : Env → Sto → Option (D × Sto)} {m : Md} {pos : Pos}
theorem pv_s (h : PEv X cl .n e f) : PEv X cl .s e f := PE.imp h fun σ H Q => by
  rintro ⟨W, env, sto, d, sto', R, hf, k⟩
  refine ⟨W, env, sto, d, sto', R, hf, fun W' H' v le R' r => ?_⟩
  rcases r with ⟨r, _⟩ | ⟨q, o, e1, h1, h2, h3⟩
  · exact k W' H' v le R' r
  · subst e1
    exact k (W'.frz q o) H' _ (le.trans (frz_ext h3.F)) (rel_frz R' h1 h3) (rep_frz h3.F h2)
theorem pv_bs (h : PEv X cl .s e f) : PEv X cl .b e f := PE.imp h fun σ H Q => by
  rintro ⟨W, env, sto, d, sto', R, hf, k⟩
  exact ⟨W, env, sto, d, sto', R, hf, fun W' H' v le R' r => k W' H' v le R' (.inl r)⟩
theorem res_b {K : PySem.W.Frag} {w : World} {W W' : Wd} {env : Env} {sto sto' : Sto} {σ : St} {H H' : Hp} {d : D} {v : V} (R : Rel K w cl W' env sto' σ H') (le : W.Le W') (h : Res K w .b W env sto σ H d v) : Top K w W' H' d v := by
  rcases h with h | ⟨i, c, h1, h2, h3⟩
  · exact .inl (rep_mono le _ _ h)
  · obtain ⟨u, q1, q2⟩ := R.e.cell i c h1
    rw [h3] at q1
    cases q1
    rw [← h2]
    exact Top.cell R.s.subP q2
theorem pv_tb (h : PEv X cl .b e f) : PEv X cl .t e f := PE.imp h fun σ H Q => by
  rintro ⟨W, env, sto, d, sto', R, hf, k⟩
  exact ⟨W, env, sto, d, sto', R, hf, fun W' H' v le R' r => k W' H' v le R' (res_b R' (Wd.Le.refl _) r)⟩
theorem pv_ts (h : PEv X cl .s e f) : PEv X cl .t e f := pv_tb (pv_bs h)
theorem pv_p (hs : ∀ env sto d s', f env sto = some (d, s') → s' = sto) (h : PEp X cl e f) : PEv X cl .s e f := PE.imp h fun σ H Q => by
  rintro ⟨W, env, sto, d, sto', R, hf, k⟩
  have e := hs _ _ _ _ hf
  subst e
  exact ⟨W, env, sto', d, R, hf, fun W' H' v le _ R' r => k W' H' v le R' r⟩
theorem two_bt (ha : PEv X cl .b a fa) (hb : PEv X cl .t b fb) : Two X cl a b fa fb := by
  refine ⟨_, _, ha, hb, ?_⟩
  rintro σ H Q ⟨W, env, sto, x, s1, y, s2, R, h1, h2, k⟩
  refine ⟨W, env, sto, x, s1, R, h1, fun W1 H1 v le1 R1 r1 => ?_⟩
  refine ⟨W1, env, s1, y, s2, R1, h2, fun W2 H2 u le2 R2 r2 => ?_⟩
  exact k W2 H2 v u (le1.trans le2) R2 (res_b R2 le2.le r1) r2
theorem two_tp (ha : PEv X cl .t a fa) (hb : PEp X cl b fb) (hs : ∀ env sto d s', fb env sto = some (d, s') → s' = sto) : Two X cl a b fa fb := by
  refine ⟨_, _, ha, hb, ?_⟩
  rintro σ H Q ⟨W, env, sto, x, s1, y, s2, R, h1, h2, k⟩
  have e := hs _ _ _ _ h2
  subst e
  refine ⟨W, env, sto, x, s2, R, h1, fun W1 H1 v le1 R1 r1 => ?_⟩
  refine ⟨W1, env, s2, y, R1, h2, fun W2 H2 u le2 sm R2 r2 => ?_⟩
  exact k W2 H2 v u (le1.trans le2) R2 (Top.mono le2.le sm r1) (.inl r2)
/-- what a plain operation hands back: a thing that stands, or a new one -/
def NewR (K : PySem.W.Frag) (w : World) (W : Wd) (H H' : Hp) (d : D) (v : V) : Prop :=
  (H' = H ∧ Rep K w W d v ∧ d.ld = false) ∨ ∃ p o, v = .ref p ∧ H p = none ∧ H' = upd H p o ∧ Make K w W p d o
abbrev SubF (W : Wd) (H : Hp) : Prop := ∀ a o, W.F a = some o → RdD H a o
theorem NewR.res {K : PySem.W.Frag} {w : World} {W : Wd} {env : Env} {sto : Sto} {σ : St} {H H' : Hp} {d : D} {v : V} (R : Rel K w cl W env sto σ H) (h : NewR K w W H H' d v) :
    Rel K w cl W env sto σ H' ∧ Res K w .n W env sto σ H' d v := by
  rcases h with ⟨rfl, h, hl⟩ | ⟨p, o, rfl, hp, rfl, hm⟩
  · exact ⟨R, .inl ⟨h, hl⟩⟩
  · exact ⟨rel_new R hp, .inr ⟨p, o, rfl, upd_same, hm, free_new R hp⟩⟩
/-- a plain operation on two values -/
def Pur2 (K : PySem.W.Frag) (w : World) (r : R2) (g : D → D → Option D) : Prop := ∀ (W : Wd) (H : Hp) (a b d : D) (x y : V) (Q : VK), SubF W H → Top K w W H a x → Top K w W H b y → g a b = some d →
  (∀ H' v, NewR K w W H H' d v → Q v H') → r x y H Q
def Pur1 (K : PySem.W.Frag) (w : World) (r : V → Hp → VK → Prop) (g : D → Option D) : Prop := ∀ (W : Wd) (H : Hp) (a d : D) (x : V) (Q : VK), SubF W H → Top K w W H a x → g a = some d →
  (∀ H' v, NewR K w W H H' d v → Q v H') → r x H Q
theorem f2_some {k : D → D → Option D} {env : Env} {s s' : Sto} {d : D} (h : f2 f g k env s = some (d, s')) : ∃ a s1 b, f env s = some (a, s1) ∧ g env s1 = some (b, s') ∧ k a b = some d := by
  unfold f2 at h
  cases e1 : f env s with
  | none => rw [e1] at h; cases h
  | some p =>
    obtain ⟨a, s1⟩ := p
    rw [e1] at h
    simp only at h
    cases e2 : g env s1 with
    | none => rw [e2] at h; cases h
    | some q =>
      obtain ⟨b, s2⟩ := q
      rw [e2] at h
      simp only at h
      cases e3 : k a b with
      | none => rw [e3] at h; cases h
      | some c =>
        rw [e3] at h
        simp only [Option.map_some, Option.some.injEq, Prod.mk.injEq] at h
        obtain ⟨rfl, rfl⟩ := h
        exact ⟨a, s1, b, rfl, e2, e3⟩
theorem two_op {r : R2} {k : D → D → Option D} {ta tb : TE} (hr : Pur2 X.K X.w r k) (h : ∀ σ H Q, t2 X.K X.w cl fa fb σ H Q → ta σ H fun x H1 => tb σ H1 fun y H2 => Q x y H2) {σ : St} {H : Hp} {Q : VK}
    (q : tE X.K X.w cl .n (f2 fa fb k) σ H Q) : ta σ H fun x H1 => tb σ H1 fun y H2 => r x y H2 Q := by
  obtain ⟨W, env, sto, d, sto', R, hf, q⟩ := q
  obtain ⟨x, s1, y, e1, e2, e3⟩ := f2_some hf
  refine h σ H _ ⟨W, env, sto, x, s1, y, sto', R, e1, e2, fun W' H' v u le R' r1 r2 => ?_⟩
  exact hr W' H' x y d v u Q R'.s.subF r1 r2 e3 fun H2 z nr => q W' H2 z le (nr.res R').1 (nr.res R').2
theorem pv_bin {op : Operator} {r : R2} {k : D → D → Option D} (ho : OpR X (binaryOp op) r) (hr : Pur2 X.K X.w r k) (h : Two X cl a b fa fb) : PEv X cl .n (.BinOp a op b pos) (f2 fa fb k) := by
  obtain ⟨ta, tb, ha, hb, h⟩ := h
  exact PE.imp (pe_op ho ha hb) fun σ H Q q => two_op hr h q
end
end PI
/-! the plain operations, by data -/
namespace PI
open PySem L2

theorem lim_eq : sizeLine = LIM := by rw [sizeLine_eq]; rfl
theorem le_line {n : Nat} (h : n ≤ LIM) : n ≤ sizeLine := by rw [lim_eq]; exact h
theorem lt_line {n : Nat} (h : n < LIM) : n < sizeLine := by rw [lim_eq]; exact h

section
variable {K : PySem.W.Frag} {w : World} {W : Wd} {H : Hp}
mutual
theorem dp_of (sub : SubF W H) : ∀ (d : D) (v : V) (p : PyData), Rep K w W d v → D.py d = some p → Dp K H v p
  | .non, v, p, h, e => by
    unfold Rep at h
    unfold D.py at e
    subst h
    cases e
    exact .non
  | .bl b, v, p, h, e => by
    unfold Rep at h
    unfold D.py at e
    subst h
    cases e
    exact .bl b
  | .int i, v, p, h, e => by
    unfold Rep at h
    unfold D.py at e
    subst h
    cases e
    exact .int i
  | .str x, v, p, h, e => by
    unfold Rep at h
    unfold D.py at e
    subst h
    cases e
    exact .str x
  | .lst ds, v, p, h, e => by
    unfold Rep at h
    unfold D.py at e
    obtain ⟨a, vs, rfl, h1, h2⟩ := h
    cases q : D.pys ds with
    | none => rw [q] at e; cases e
    | some ps =>
      rw [q] at e
      cases e
      exact .lst (SqL.of (sub _ _ h1).lst) (dps_of sub ds vs ps h2 q)
  | .tup ds, v, p, h, e => by
    unfold Rep at h
    unfold D.py at e
    obtain ⟨a, vs, rfl, h1, h2⟩ := h
    cases q : D.pys ds with
    | none => rw [q] at e; cases e
    | some ps =>
      rw [q] at e
      cases e
      exact .tup (sqT_sub sub h1) (dps_of sub ds vs ps h2 q)
  | .dct _, v, p, h, e => by
    unfold D.py at e
    cases e
  | .obj _, v, p, h, e => by
    unfold D.py at e
    cases e
theorem dps_of (sub : SubF W H) : ∀ (ds : List D) (vs : List V) (ps : List PyData), Reps K w W ds vs → D.pys ds = some ps → DpAll K H vs ps
  | [], vs, ps, h, e => by
    unfold Reps at h
    unfold D.pys at e
    subst h
    cases e
    exact .nil
  | d :: ds, vs, ps, h, e => by
    unfold Reps at h
    unfold D.pys at e
    obtain ⟨v, r, rfl, h1, h2⟩ := h
    cases q1 : D.py d with
    | none => rw [q1] at e; cases e
    | some p =>
      cases q2 : D.pys ds with
      | none => rw [q1, q2] at e; cases e
      | some pr =>
        rw [q1, q2] at e
        cases e
        exact .cons (dp_of sub d v p h1 q1) (dps_of sub ds r pr h2 q2)
end
theorem dp_top (sub : SubF W H) {d : D} {v : V} {p : PyData} (h : Top K w W H d v) (e : D.py d = some p) : Dp K H v p := by
  rcases h with h | ⟨a, o, rfl, h1, h2⟩
  · exact dp_of sub d v p h e
  · cases d with
    | lst ds =>
      obtain ⟨vs, rfl, h2⟩ := h2
      unfold D.py at e
      cases q : D.pys ds with
      | none => rw [q] at e; cases e
      | some ps =>
        rw [q] at e
        cases e
        exact .lst (SqL.of h1.lst) (dps_of sub ds vs ps h2 q)
    | dct _ => unfold D.py at e; cases e
    | _ => exact h2.elim
end

theorem beq_str (x y : Str) : (x == y) = decide (x = y) := by
  by_cases h : x = y
  · subst h; simp
  · simp [h]
mutual
theorem py_beq : ∀ (a b : D) (x y : PyData), D.py a = some x → D.py b = some y → PyData.eqv x y = D.beq a b
  | .non, b, x, y, h1, h2 => by
    cases b <;> simp only [D.py, Option.map_eq_some_iff, Option.some.injEq, reduceCtorEq] at h1 h2 <;> (try obtain ⟨z, h2, h3⟩ := h2) <;> subst_vars <;> simp [D.beq, PyData.eqv]
  | .bl _, b, x, y, h1, h2 => by
    cases b <;> simp only [D.py, Option.map_eq_some_iff, Option.some.injEq, reduceCtorEq] at h1 h2 <;> (try obtain ⟨z, h2, h3⟩ := h2) <;> subst_vars <;> simp [D.beq, PyData.eqv]
  | .int _, b, x, y, h1, h2 => by
    cases b <;> simp only [D.py, Option.map_eq_some_iff, Option.some.injEq, reduceCtorEq] at h1 h2 <;> (try obtain ⟨z, h2, h3⟩ := h2) <;> subst_vars <;> simp [D.beq, PyData.eqv]
  | .str _, b, x, y, h1, h2 => by
    cases b <;> simp only [D.py, Option.map_eq_some_iff, Option.some.injEq, reduceCtorEq] at h1 h2 <;> (try obtain ⟨z, h2, h3⟩ := h2) <;> subst_vars <;> simp [D.beq, PyData.eqv, beq_str]
  | .lst xs, b, x, y, h1, h2 => by
    simp only [D.py, Option.map_eq_some_iff] at h1
    obtain ⟨px, h1, rfl⟩ := h1
    cases b with
    | lst ys =>
      simp only [D.py, Option.map_eq_some_iff] at h2
      obtain ⟨py, h2, rfl⟩ := h2
      simp only [D.beq, PyData.eqv]
      exact pys_beqs xs ys px py h1 h2
    | tup ys =>
      simp only [D.py, Option.map_eq_some_iff] at h2
      obtain ⟨py, h2, rfl⟩ := h2
      simp [D.beq, PyData.eqv]
    | _ => simp only [D.py, Option.some.injEq, reduceCtorEq] at h2 <;> subst_vars <;> simp [D.beq, PyData.eqv]
  | .tup xs, b, x, y, h1, h2 => by
    simp only [D.py, Option.map_eq_some_iff] at h1
    obtain ⟨px, h1, rfl⟩ := h1
    cases b with
    | tup ys =>
      simp only [D.py, Option.map_eq_some_iff] at h2
      obtain ⟨py, h2, rfl⟩ := h2
      simp only [D.beq, PyData.eqv]
      exact pys_beqs xs ys px py h1 h2
    | lst ys =>
      simp only [D.py, Option.map_eq_some_iff] at h2
      obtain ⟨py, h2, rfl⟩ := h2
      simp [D.beq, PyData.eqv]
    | _ => simp only [D.py, Option.some.injEq, reduceCtorEq] at h2 <;> subst_vars <;> simp [D.beq, PyData.eqv]
  | .dct _, b, x, y, h1, h2 => by simp [D.py] at h1
  | .obj _, b, x, y, h1, h2 => by simp [D.py] at h1
theorem pys_beqs : ∀ (a b : List D) (x y : List PyData), D.pys a = some x → D.pys b = some y → PyData.eqvAll x y = D.beqs a b
  | [], b, x, y, h1, h2 => by
    simp only [D.pys, Option.some.injEq] at h1
    subst h1
    cases b with
    | nil => simp only [D.pys, Option.some.injEq] at h2; subst h2; simp [D.beqs, PyData.eqvAll]
    | cons d r =>
      simp only [D.pys] at h2
      cases q1 : D.py d with
      | none => rw [q1] at h2; cases h2
      | some p =>
        cases q2 : D.pys r with
        | none => rw [q1, q2] at h2; cases h2
        | some ps => rw [q1, q2] at h2; cases h2; simp [D.beqs, PyData.eqvAll]
  | a :: as, b, x, y, h1, h2 => by
    simp only [D.pys] at h1
    cases p1 : D.py a with
    | none => rw [p1] at h1; cases h1
    | some p =>
      cases p2 : D.pys as with
      | none => rw [p1, p2] at h1; cases h1
      | some ps =>
        rw [p1, p2] at h1
        cases h1
        cases b with
        | nil => simp only [D.pys, Option.some.injEq] at h2; subst h2; simp [D.beqs, PyData.eqvAll]
        | cons d r =>
          simp only [D.pys] at h2
          cases q1 : D.py d with
          | none => rw [q1] at h2; cases h2
          | some q =>
            cases q2 : D.pys r with
            | none => rw [q1, q2] at h2; cases h2
            | some qs =>
              rw [q1, q2] at h2
              cases h2
              simp only [D.beqs, PyData.eqvAll]
              rw [py_beq a d p q p1 q1, pys_beqs as r ps qs p2 q2]
end
mutual
theorem fit_py : ∀ (n : Nat) (d : D), D.fitN n d = true → ∃ p, D.py d = some p ∧ p.canLay0 = true ∧ p.depth ≤ n + 1
  | n, .non, _ => ⟨.none, by simp [D.py], by simp [PyData.canLay0], by simp [PyData.depth]⟩
  | n, .bl b, _ => ⟨.bool b, by simp [D.py], by simp [PyData.canLay0], by simp [PyData.depth]⟩
  | n, .int i, _ => ⟨.int i, by simp [D.py], by simp [PyData.canLay0], by simp [PyData.depth]⟩
  | n, .str x, h => ⟨.str x, by simp [D.py], by
      have h : D.fitN n (.str x) = true := h
      cases n <;> (unfold D.fitN at h; simp only [PyData.canLay0]; exact h), by simp [PyData.depth]⟩
  | 0, .lst xs, h => by simp [D.fitN] at h
  | 0, .tup xs, h => by simp [D.fitN] at h
  | n + 1, .lst xs, h => by
    have h : D.fitNs n xs = true := by simpa [D.fitN] using h
    obtain ⟨ps, h1, h2, h3⟩ := fits_pys n xs h
    exact ⟨.list ps, by simp [D.py, h1], by simpa [PyData.canLay0] using h2, by simp only [PyData.depth]; omega⟩
  | n + 1, .tup xs, h => by
    have h : D.fitNs n xs = true := by simpa [D.fitN] using h
    obtain ⟨ps, h1, h2, h3⟩ := fits_pys n xs h
    exact ⟨.tuple ps, by simp [D.py, h1], by simpa [PyData.canLay0] using h2, by simp only [PyData.depth]; omega⟩
  | n, .dct _, h => by cases n <;> simp [D.fitN] at h
  | n, .obj _, h => by cases n <;> simp [D.fitN] at h
theorem fits_pys : ∀ (n : Nat) (ds : List D), D.fitNs n ds = true → ∃ ps, D.pys ds = some ps ∧ PyData.canLayAll0 ps = true ∧ PyData.depthAll ps ≤ n + 1
  | n, [], _ => ⟨[], by simp [D.pys], by simp [PyData.canLayAll0], by simp [PyData.depthAll]⟩
  | n, d :: ds, h => by
    have h : D.fitN n d = true ∧ D.fitNs n ds = true := by simpa [D.fitNs] using h
    obtain ⟨p, h1, h2, h3⟩ := fit_py n d h.1
    obtain ⟨ps, g1, g2, g3⟩ := fits_pys n ds h.2
    exact ⟨p :: ps, by simp [D.pys, h1, g1], by simp [PyData.canLayAll0, h2, g2], by simp only [PyData.depthAll]; omega⟩
end
end PI
/-! the operators -/
namespace PI
open PySem L2

theorem new_flat {K : PySem.W.Frag} {w : World} {W : Wd} {H : Hp} {d : D} {v : V} (h : Rep K w W d v) (hl : d.ld = false := by rfl) : NewR K w W H H d v := .inl ⟨rfl, h, hl⟩
theorem new_int {K : PySem.W.Frag} {w : World} {W : Wd} {H : Hp} (i : Int) : NewR K w W H H (.int i) (.int i) := .inl ⟨rfl, by simp [Rep], rfl⟩
theorem new_bl {K : PySem.W.Frag} {w : World} {W : Wd} {H : Hp} (i : Bool) : NewR K w W H H (.bl i) (.bl i) := .inl ⟨rfl, by simp [Rep], rfl⟩
theorem new_str {K : PySem.W.Frag} {w : World} {W : Wd} {H : Hp} (i : Str) : NewR K w W H H (.str i) (.str i) := .inl ⟨rfl, by simp [Rep], rfl⟩
theorem new_lst {K : PySem.W.Frag} {w : World} {W : Wd} {H : Hp} {p : Addr} {ds : List D} {vs : List V} (hp : H p = none) (h : Reps K w W ds vs) : NewR K w W H (upd H p (.lst vs)) (.lst ds) (.ref p) :=
  .inr ⟨p, _, rfl, hp, rfl, .inl ⟨vs, rfl, h⟩⟩
theorem new_tup {K : PySem.W.Frag} {w : World} {W : Wd} {H : Hp} {p : Addr} {ds : List D} {vs : List V} (hp : H p = none) (h : Reps K w W ds vs) : NewR K w W H (upd H p (.tup vs)) (.tup ds) (.ref p) :=
  .inr ⟨p, _, rfl, hp, rfl, .inr ⟨ds, vs, rfl, rfl, h⟩⟩
theorem reps_append {K : PySem.W.Frag} {w : World} {W : Wd} : ∀ {ds es : List D} {vs us : List V}, Reps K w W ds vs → Reps K w W es us → Reps K w W (ds ++ es) (vs ++ us)
  | [], es, vs, us, h, g => by
    unfold Reps at h
    subst h
    exact g
  | d :: ds, es, vs, us, h, g => by
    unfold Reps at h
    obtain ⟨v, r, rfl, h1, h2⟩ := h
    show Reps K w W (d :: (ds ++ es)) (v :: (r ++ us))
    unfold Reps
    exact ⟨v, _, rfl, h1, reps_append h2 g⟩
theorem reps_get {K : PySem.W.Frag} {w : World} {W : Wd} : ∀ {ds : List D} {vs : List V} {i : Nat} {d : D}, Reps K w W ds vs → ds[i]? = some d → ∃ v, vs[i]? = some v ∧ Rep K w W d v
  | [], _, _, _, _, e => by simp at e
  | d :: ds, vs, i, x, h, e => by
    unfold Reps at h
    obtain ⟨v, r, rfl, h1, h2⟩ := h
    cases i with
    | zero =>
      simp only [List.getElem?_cons_zero, Option.some.injEq] at e
      subst e
      exact ⟨v, rfl, h1⟩
    | succ i =>
      obtain ⟨u, q1, q2⟩ := reps_get h2 (by simpa using e)
      exact ⟨u, by simpa using q1, q2⟩
theorem reps_take {K : PySem.W.Frag} {w : World} {W : Wd} : ∀ {ds : List D} {vs : List V} (n : Nat), Reps K w W ds vs → Reps K w W (ds.take n) (vs.take n)
  | [], vs, n, h => by
    unfold Reps at h
    subst h
    cases n <;> simp [Reps]
  | d :: ds, vs, n, h => by
    unfold Reps at h
    obtain ⟨v, r, rfl, h1, h2⟩ := h
    cases n with
    | zero => simp [Reps]
    | succ n =>
      simp only [List.take_succ_cons]
      unfold Reps
      exact ⟨v, _, rfl, h1, reps_take n h2⟩
theorem reps_drop {K : PySem.W.Frag} {w : World} {W : Wd} : ∀ {ds : List D} {vs : List V} (n : Nat), Reps K w W ds vs → Reps K w W (ds.drop n) (vs.drop n)
  | [], vs, n, h => by
    unfold Reps at h
    subst h
    cases n <;> simp [Reps]
  | d :: ds, vs, n, h => by
    cases n with
    | zero => exact h
    | succ n =>
      unfold Reps at h
      obtain ⟨v, r, rfl, h1, h2⟩ := h
      simp only [List.drop_succ_cons]
      exact reps_drop n h2
theorem reps_ints {K : PySem.W.Frag} {w : World} {W : Wd} : ∀ {ds : List D} {vs : List V} {ns : List Int}, Reps K w W ds vs → D.ints ds = some ns → vs = ns.map V.int
  | [], vs, ns, h, e => by
    unfold Reps at h
    subst h
    simp only [D.ints, Option.some.injEq] at e
    subst e
    rfl
  | d :: ds, vs, ns, h, e => by
    unfold Reps at h
    obtain ⟨v, r, rfl, h1, h2⟩ := h
    cases d with
    | int i =>
      simp only [D.ints, Option.map_eq_some_iff] at e
      obtain ⟨ms, e, rfl⟩ := e
      rw [reps_ints h2 e]
      unfold Rep at h1
      rw [h1]
      rfl
    | _ => simp [D.ints] at e
theorem reps_bools {K : PySem.W.Frag} {w : World} {W : Wd} : ∀ {ds : List D} {vs : List V} {ns : List Bool}, Reps K w W ds vs → D.bools ds = some ns → vs = ns.map V.bl
  | [], vs, ns, h, e => by
    unfold Reps at h
    subst h
    simp only [D.bools, Option.some.injEq] at e
    subst e
    rfl
  | d :: ds, vs, ns, h, e => by
    unfold Reps at h
    obtain ⟨v, r, rfl, h1, h2⟩ := h
    cases d with
    | bl i =>
      simp only [D.bools, Option.map_eq_some_iff] at e
      obtain ⟨ms, e, rfl⟩ := e
      rw [reps_bools h2 e]
      unfold Rep at h1
      rw [h1]
      rfl
    | _ => simp [D.bools] at e

section
variable {X : Cx} {K : PySem.W.Frag} {w : World}
/-! + - * // % -/
def rAddU (K : PySem.W.Frag) : R2 := fun x y H Q => (rI0 fun i j => .int (i + j)) x y H Q ∨ (∃ i j, x = .str i ∧ y = .str j ∧ i.length + j.length ≤ sizeLine ∧ Q (.str (i ++ j)) H) ∨ rCat x y H Q ∨ rCatA K x y H Q
theorem op_addU : OpR X (binaryOp .Add) (rAddU X.K) := op_add.or (op_add_str.or (op_cat.or op_catA))
theorem pur_add : Pur2 K w (rAddU K) dAdd := by
  intro W H a b d x y Q sub ra rb e k
  cases a with
  | int i =>
    cases b with
    | int j =>
      cases e
      exact .inl ⟨i, j, ra.int, rb.int, k _ _ (new_int _)⟩
    | _ => cases e
  | str i =>
    cases b with
    | str j =>
      simp only [dAdd] at e
      split at e
      · rename_i h
        cases e
        exact .inr (.inl ⟨i, j, ra.str, rb.str, le_line h, k _ _ (new_str _)⟩)
      · cases e
    | _ => cases e
  | lst xs =>
    cases b with
    | lst ys =>
      simp only [dAdd] at e
      split at e
      · rename_i h
        cases e
        obtain ⟨p, vs, rfl, h1, h2⟩ := ra.lst sub
        obtain ⟨q, us, rfl, g1, g2⟩ := rb.lst sub
        refine .inr (.inr (.inl ⟨p, q, vs, us, rfl, rfl, h1, g1, ?_, fun z hz => k _ _ (new_lst hz (reps_append h2 g2))⟩))
        rw [reps_length h2, reps_length g2]
        exact le_line h
      · cases e
    | _ => cases e
  | tup xs =>
    cases b with
    | tup ys =>
      simp only [dAdd] at e
      split at e
      · rename_i h
        cases e
        obtain ⟨p, vs, rfl, h1, h2⟩ := ra.tup sub
        obtain ⟨q, us, rfl, g1, g2⟩ := rb.tup sub
        have l1 := reps_length h2
        have l2 := reps_length g2
        refine .inr (.inr (.inr ⟨p, q, vs, us, rfl, rfl, h1, g1, by rw [l1, l2]; exact le_line h, fun z => k _ _ ?_, fun z1 z2 => k _ _ ?_, fun _ _ z hz => k _ _ (new_tup hz (reps_append h2 g2))⟩))
        · subst z
          have z : xs = [] := List.eq_nil_of_length_eq_zero (by rw [← l1]; rfl)
          subst z
          exact new_flat rb.tupR
        · subst z2
          have z : ys = [] := List.eq_nil_of_length_eq_zero (by rw [← l2]; rfl)
          subst z
          rw [List.append_nil]
          exact new_flat ra.tupR
      · cases e
    | _ => cases e
  | _ => cases e
theorem pur_sub : Pur2 K w (rI0 fun i j => .int (i - j)) dSub := by
  intro W H a b d x y Q sub ra rb e k
  cases a with
  | int i =>
    cases b with
    | int j =>
      cases e
      exact ⟨i, j, ra.int, rb.int, k _ _ (new_int _)⟩
    | _ => cases e
  | _ => cases e
theorem pur_mul : Pur2 K w (rI CMul fun i j => .int (i * j)) dMul := by
  intro W H a b d x y Q sub ra rb e k
  cases a with
  | int i =>
    cases b with
    | int j =>
      simp only [dMul] at e
      split at e
      · rename_i h
        cases e
        refine ⟨i, j, ra.int, rb.int, ?_, k _ _ (new_int _)⟩
        simp only [small, Bool.or_eq_true] at h
        rcases h with h | h
        · have := near_iff h
          exact .inl (by omega)
        · have := near_iff h
          exact .inr (by omega)
      · cases e
    | _ => cases e
  | _ => cases e
theorem pur_fdiv : Pur2 K w (rI CDiv fun i j => .int (i / j)) dFdiv := by
  intro W H a b d x y Q sub ra rb e k
  cases a with
  | int i =>
    cases b with
    | int j =>
      simp only [dFdiv] at e
      split at e
      · rename_i h
        cases e
        exact ⟨i, j, ra.int, rb.int, ⟨h.1, (near_iff h.2).2⟩, k _ _ (new_int _)⟩
      · cases e
    | _ => cases e
  | _ => cases e
theorem pur_mod : Pur2 K w (rI (fun _ j => 0 < j) fun i j => .int (i % j)) dMod := by
  intro W H a b d x y Q sub ra rb e k
  cases a with
  | int i =>
    cases b with
    | int j =>
      simp only [dMod] at e
      split at e
      · rename_i h
        cases e
        exact ⟨i, j, ra.int, rb.int, h, k _ _ (new_int _)⟩
      · cases e
    | _ => cases e
  | _ => cases e
/-! == -/
def rEqU (K : PySem.W.Frag) : R2 := fun x y H Q => rEq x y H Q ∨ rEqD K x y H Q
def rNeU (K : PySem.W.Frag) : R2 := fun x y H Q => rNe x y H Q ∨ rNeD K x y H Q
theorem op_eqU (hu : X.A.units + 64 < cLine) : OpR X (compareOp .Eq) (rEqU X.K) := op_eq.or (op_eqD hu)
theorem op_neU (hu : X.A.units + 64 < cLine) : OpR X (compareOp .NotEq) (rNeU X.K) := op_ne.or (op_neD hu)
theorem fit_shaped {d : D} (h : d.fit = true) : ∃ p, D.py d = some p ∧ SeqAt.shaped p = true := by
  obtain ⟨p, h1, h2, h3⟩ := fit_py 60 d h
  refine ⟨p, h1, ?_⟩
  unfold SeqAt.shaped
  rw [h2, Bool.true_and]
  exact decide_eq_true (by omega)
/-- flat things without a text -/
def D.bare : D → Bool
  | .non | .bl _ | .int _ => true
  | _ => false
theorem bare_fit {d : D} (h : d.bare = true) : d.fit = true := by cases d <;> simp_all [D.bare, D.fit, D.fitN]
theorem flat_cases {a b : D} (ha : a.flat = true) (hb : b.flat = true) : (a.bare = true ∧ b.bare = true) ∨ ∃ x y : V, (∀ K w W H v, Top K w W H a v → v = x) ∧ (∀ K w W H v, Top K w W H b v → v = y) ∧ scal x y = true ∧ decide (x = y) = D.beq a b := by
  cases a with
  | str z =>
    cases b with
    | str u => exact .inr ⟨.str z, .str u, fun _ _ _ _ _ h => h.str, fun _ _ _ _ _ h => h.str, rfl, by simp [D.beq]⟩
    | non => exact .inr ⟨.str z, .non, fun _ _ _ _ _ h => h.str, fun _ _ _ _ _ h => h.non, rfl, by simp [D.beq]⟩
    | bl u => exact .inr ⟨.str z, .bl u, fun _ _ _ _ _ h => h.str, fun _ _ _ _ _ h => h.bl, rfl, by simp [D.beq]⟩
    | int u => exact .inr ⟨.str z, .int u, fun _ _ _ _ _ h => h.str, fun _ _ _ _ _ h => h.int, rfl, by simp [D.beq]⟩
    | _ => exact absurd hb Bool.false_ne_true
  | non =>
    cases b with
    | str u => exact .inr ⟨.non, .str u, fun _ _ _ _ _ h => h.non, fun _ _ _ _ _ h => h.str, rfl, by simp [D.beq]⟩
    | _ => first | exact .inl ⟨rfl, rfl⟩ | exact absurd hb Bool.false_ne_true
  | bl z =>
    cases b with
    | str u => exact .inr ⟨.bl z, .str u, fun _ _ _ _ _ h => h.bl, fun _ _ _ _ _ h => h.str, rfl, by simp [D.beq]⟩
    | _ => first | exact .inl ⟨rfl, rfl⟩ | exact absurd hb Bool.false_ne_true
  | int z =>
    cases b with
    | str u => exact .inr ⟨.int z, .str u, fun _ _ _ _ _ h => h.int, fun _ _ _ _ _ h => h.str, rfl, by simp [D.beq]⟩
    | _ => first | exact .inl ⟨rfl, rfl⟩ | exact absurd hb Bool.false_ne_true
  | _ => exact absurd ha Bool.false_ne_true
theorem dEq_cases {a b : D} {r : Bool} (h : dEq a b = some r) : r = D.beq a b ∧ ((∃ p q, D.py a = some p ∧ D.py b = some q ∧ SeqAt.shaped p = true ∧ SeqAt.shaped q = true ∧ PyData.eqv p q = r) ∨
    ∃ x y : V, (∀ K w W H v, Top K w W H a v → v = x) ∧ (∀ K w W H v, Top K w W H b v → v = y) ∧ scal x y = true ∧ decide (x = y) = r) := by
  have deep : a.fit = true → b.fit = true → r = D.beq a b → ∃ p q, D.py a = some p ∧ D.py b = some q ∧ SeqAt.shaped p = true ∧ SeqAt.shaped q = true ∧ PyData.eqv p q = r := fun h1 h2 e => by
    obtain ⟨p, p1, p2⟩ := fit_shaped h1
    obtain ⟨q, q1, q2⟩ := fit_shaped h2
    exact ⟨p, q, p1, q1, p2, q2, by rw [py_beq a b p q p1 q1, e]⟩
  unfold dEq at h
  split at h
  · rename_i hf
    cases h
    refine ⟨rfl, ?_⟩
    simp only [Bool.and_eq_true] at hf
    rcases flat_cases hf.1 hf.2 with ⟨h1, h2⟩ | z
    · exact .inl (deep (bare_fit h1) (bare_fit h2) rfl)
    · exact .inr z
  · split at h
    · rename_i hf
      cases h
      simp only [Bool.and_eq_true] at hf
      exact ⟨rfl, .inl (deep hf.1 hf.2 rfl)⟩
    · cases h
theorem pur_eq : Pur2 K w (rEqU K) fun a b => (dCmp .eq a b).map .bl := by
  intro W H a b d x y Q sub ra rb e k
  simp only [dCmp, Option.map_eq_some_iff] at e
  obtain ⟨r, e, rfl⟩ := e
  rcases (dEq_cases e).2 with ⟨p, q, h1, h2, h3, h4, h5⟩ | ⟨u, v, h1, h2, h3, h4⟩
  · exact .inr ⟨p, q, dp_top sub ra h1, dp_top sub rb h2, h3, h4, by rw [h5]; exact k _ _ (new_bl _)⟩
  · have e1 := h1 _ _ _ _ _ ra
    have e2 := h2 _ _ _ _ _ rb
    subst e1; subst e2
    exact .inl ⟨h3, by rw [h4]; exact k _ _ (new_bl _)⟩
theorem pur_ne : Pur2 K w (rNeU K) fun a b => (dCmp .ne a b).map .bl := by
  intro W H a b d x y Q sub ra rb e k
  simp only [dCmp, Option.map_eq_some_iff] at e
  obtain ⟨_, ⟨r, e, rfl⟩, rfl⟩ := e
  rcases (dEq_cases e).2 with ⟨p, q, h1, h2, h3, h4, h5⟩ | ⟨u, v, h1, h2, h3, h4⟩
  · exact .inr ⟨p, q, dp_top sub ra h1, dp_top sub rb h2, h3, h4, by rw [h5]; exact k _ _ (new_bl _)⟩
  · have e1 := h1 _ _ _ _ _ ra
    have e2 := h2 _ _ _ _ _ rb
    subst e1; subst e2
    exact .inl ⟨h3, by rw [h4]; exact k _ _ (new_bl _)⟩
/-! < > <= >= is, is not -/
theorem lexB_eq : ∀ ns ms : List Int, HT.lexLt ns ms = lexB ns ms
  | [], [] => rfl
  | [], _ :: _ => rfl
  | _ :: _, [] => rfl
  | x :: xs, y :: ys => by
    unfold HT.lexLt lexB
    rw [lexB_eq xs ys]
def rLtU (K : PySem.W.Frag) : R2 := fun x y H Q => (rI0 fun i j => .bl (decide (i < j))) x y H Q ∨ (∃ i j, x = .str i ∧ y = .str j ∧ Q (.bl (decide (i.cps.toList < j.cps.toList))) H) ∨ rLtT K x y H Q
theorem op_ltU (hu : X.A.units < cLine) : OpR X (compareOp .Lt) (rLtU X.K) := op_lt.or (op_lt_str.or (op_ltT hu))
theorem pur_lt : Pur2 K w (rLtU K) fun a b => (dCmp .lt a b).map .bl := by
  intro W H a b d x y Q sub ra rb e k
  simp only [dCmp, Option.map_eq_some_iff] at e
  obtain ⟨r, e, rfl⟩ := e
  cases a with
  | int i =>
    cases b with
    | int j =>
      cases e
      exact .inl ⟨i, j, ra.int, rb.int, k _ _ (new_bl _)⟩
    | _ => cases e
  | str i =>
    cases b with
    | str j =>
      cases e
      exact .inr (.inl ⟨i, j, ra.str, rb.str, k _ _ (new_bl _)⟩)
    | _ => cases e
  | tup xs =>
    cases b with
    | tup ys =>
      simp only [dLt] at e
      cases e1 : D.ints xs with
      | none => rw [e1] at e; cases e
      | some ns =>
        cases e2 : D.ints ys with
        | none => rw [e1, e2] at e; cases e
        | some ms =>
          rw [e1, e2] at e
          cases e
          obtain ⟨p, vs, rfl, h1, h2⟩ := ra.tup sub
          obtain ⟨q, us, rfl, g1, g2⟩ := rb.tup sub
          rw [reps_ints h2 e1] at h1
          rw [reps_ints g2 e2] at g1
          exact .inr (.inr ⟨p, q, ns, ms, rfl, rfl, h1, g1, by rw [lexB_eq]; exact k _ _ (new_bl _)⟩)
    | _ => cases e
  | _ => cases e
theorem pur_gt : Pur2 K w (rI0 fun i j => .bl (decide (j < i))) fun a b => (dCmp .gt a b).map .bl := by
  intro W H a b d x y Q sub ra rb e k
  simp only [dCmp, Option.map_eq_some_iff] at e
  obtain ⟨r, e, rfl⟩ := e
  cases a with
  | int i =>
    cases b with
    | int j =>
      cases e
      exact ⟨i, j, ra.int, rb.int, k _ _ (new_bl _)⟩
    | _ => cases e
  | _ => cases e
theorem pur_le : Pur2 K w (rI0 fun i j => .bl (decide (i ≤ j))) fun a b => (dCmp .le a b).map .bl := by
  intro W H a b d x y Q sub ra rb e k
  simp only [dCmp, Option.map_eq_some_iff] at e
  obtain ⟨r, e, rfl⟩ := e
  cases a with
  | int i =>
    cases b with
    | int j =>
      cases e
      exact ⟨i, j, ra.int, rb.int, k _ _ (new_bl _)⟩
    | _ => cases e
  | _ => cases e
theorem pur_ge : Pur2 K w (rI0 fun i j => .bl (decide (j ≤ i))) fun a b => (dCmp .ge a b).map .bl := by
  intro W H a b d x y Q sub ra rb e k
  simp only [dCmp, Option.map_eq_some_iff] at e
  obtain ⟨r, e, rfl⟩ := e
  cases a with
  | int i =>
    cases b with
    | int j =>
      cases e
      exact ⟨i, j, ra.int, rb.int, k _ _ (new_bl _)⟩
    | _ => cases e
  | _ => cases e
theorem top_non {W : Wd} {H : Hp} {d : D} {v : V} (h : Top K w W H d v) : decide (v = .non) = d.isNon := by
  rcases h with h | ⟨p, o, rfl, _, h⟩
  · cases d <;> (unfold Rep at h; first | (subst h; rfl) | (obtain ⟨a, h, _⟩ := h; subst h; rfl) | (obtain ⟨a, _, h, _⟩ := h; subst h; rfl))
  · cases d <;> first | rfl | exact h.elim
theorem pur_is : Pur2 K w (fun x y H Q => y = .non ∧ Q (.bl (decide (x = .non))) H) fun a b => (dCmp .is a b).map .bl := by
  intro W H a b d x y Q sub ra rb e k
  simp only [dCmp, Option.map_eq_some_iff] at e
  obtain ⟨r, e, rfl⟩ := e
  split at e
  · rename_i h
    cases e
    refine ⟨?_, by rw [top_non ra]; exact k _ _ (new_bl _)⟩
    have q := top_non rb
    rw [h] at q
    exact of_decide_eq_true q
  · cases e
theorem pur_isnot : Pur2 K w (fun x y H Q => y = .non ∧ Q (.bl (!decide (x = .non))) H) fun a b => (dCmp .isnot a b).map .bl := by
  intro W H a b d x y Q sub ra rb e k
  simp only [dCmp, Option.map_eq_some_iff] at e
  obtain ⟨r, e, rfl⟩ := e
  split at e
  · rename_i h
    cases e
    refine ⟨?_, by rw [top_non ra]; exact k _ _ (new_bl _)⟩
    have q := top_non rb
    rw [h] at q
    exact of_decide_eq_true q
  · cases e
end
end PI
/-! in, subscripts, slices -/
namespace PI
open PySem L2

section
variable {X : Cx} {K : PySem.W.Frag} {w : World}
/-- x in a tuple of data -/
def rInTD (K : PySem.W.Frag) : R2 := fun x y H Q => ∃ d ds, Dp K H x d ∧ Dp K H y (.tuple ds) ∧ SeqAt.shaped d = true ∧ SeqAt.shaped (.tuple ds) = true ∧ Q (.bl (ds.any fun z => PyData.eqv z d)) H
def rNotInTD (K : PySem.W.Frag) : R2 := fun x y H Q => ∃ d ds, Dp K H x d ∧ Dp K H y (.tuple ds) ∧ SeqAt.shaped d = true ∧ SeqAt.shaped (.tuple ds) = true ∧ Q (.bl (!ds.any fun z => PyData.eqv z d)) H
theorem room_in {A : Around} {xs : List PyData} {d : PyData} (hd : SeqAt.shaped d = true) (hu : A.units + 65 < cLine) : A.units + 1 + min (PyData.depthAll xs) d.depth < cLine := by
  have h1 := SeqAt.depth_of_shaped hd
  have h2 : min (PyData.depthAll xs) d.depth ≤ d.depth := Nat.min_le_right _ _
  omega
theorem op_inTD (hu : X.A.units + 65 < cLine) : OpR X (compareOp .In) (rInTD X.K) := by
  intro pins s σ H x y v u Q I rx ry h
  obtain ⟨d, ds, hd, he, sd, se, q⟩ := h
  obtain ⟨as, r1⟩ := Dp.reads I d x v hd rx
  obtain ⟨bs, r2⟩ := Dp.reads I (.tuple ds) y u he ry
  exact SeqAt.in_tuple_reads r2 r1 (SeqAt.canLay_of_shaped se) (SeqAt.canLay_of_shaped sd) (room_in sd hu) ⟨.bl _, H, I, rfl, q⟩
theorem op_notInTD (hu : X.A.units + 65 < cLine) : OpR X (compareOp .NotIn) (rNotInTD X.K) := by
  intro pins s σ H x y v u Q I rx ry h
  obtain ⟨d, ds, hd, he, sd, se, q⟩ := h
  obtain ⟨as, r1⟩ := Dp.reads I d x v hd rx
  obtain ⟨bs, r2⟩ := Dp.reads I (.tuple ds) y u he ry
  exact SeqAt.notIn_tuple_reads r2 r1 (SeqAt.canLay_of_shaped se) (SeqAt.canLay_of_shaped sd) (room_in sd hu) ⟨.bl _, H, I, rfl, q⟩
theorem flat_v {W : Wd} {H : Hp} {d : D} {v : V} (h : Top K w W H d v) (e : d.flat = true) : flatV v = true ∧ ∀ d' v', Top K w W H d' v' → d'.flat = true → eqV v' v = D.beq d' d := by
  cases d with
  | non =>
    cases h.non
    refine ⟨rfl, fun d' v' h' e' => ?_⟩
    cases d' with
    | non => cases h'.non; rfl
    | bl _ => cases h'.bl; simp [eqV, D.beq]
    | int _ => cases h'.int; simp [eqV, D.beq]
    | str _ => cases h'.str; simp [eqV, D.beq]
    | _ => exact absurd e' Bool.false_ne_true
  | bl b =>
    cases h.bl
    refine ⟨rfl, fun d' v' h' e' => ?_⟩
    cases d' with
    | non => cases h'.non; rfl
    | bl _ => cases h'.bl; simp [eqV, D.beq]
    | int _ => cases h'.int; simp [eqV, D.beq]
    | str _ => cases h'.str; simp [eqV, D.beq]
    | _ => exact absurd e' Bool.false_ne_true
  | int i =>
    cases h.int
    refine ⟨rfl, fun d' v' h' e' => ?_⟩
    cases d' with
    | non => cases h'.non; rfl
    | bl _ => cases h'.bl; simp [eqV, D.beq]
    | int _ => cases h'.int; simp [eqV, D.beq]
    | str _ => cases h'.str; simp [eqV, D.beq]
    | _ => exact absurd e' Bool.false_ne_true
  | str x =>
    cases h.str
    refine ⟨rfl, fun d' v' h' e' => ?_⟩
    cases d' with
    | non => cases h'.non; rfl
    | bl _ => cases h'.bl; simp [eqV, D.beq]
    | int _ => cases h'.int; simp [eqV, D.beq]
    | str _ => cases h'.str; simp [eqV, D.beq, beq_str]
    | _ => exact absurd e' Bool.false_ne_true
  | _ => exact absurd e Bool.false_ne_true
theorem in_flat {W : Wd} {H : Hp} {d : D} {v : V} (h : Top K w W H d v) (e : d.flat = true) : ∀ {ds : List D} {vs : List V}, Reps K w W ds vs → ds.all D.flat = true → vs.all flatV = true ∧ inV v vs = ds.any fun y => D.beq y d
  | [], vs, hr, _ => by
    unfold Reps at hr
    subst hr
    exact ⟨rfl, rfl⟩
  | y :: ds, vs, hr, hf => by
    unfold Reps at hr
    obtain ⟨u, r, rfl, h1, h2⟩ := hr
    simp only [List.all_cons, Bool.and_eq_true] at hf
    obtain ⟨q1, q2⟩ := in_flat h e h2 hf.2
    have f1 := (flat_v (H := H) (.inl h1) hf.1).1
    refine ⟨by simp [f1, q1], ?_⟩
    unfold inV at q2 ⊢
    rw [List.any_cons, List.any_cons, q2, (flat_v h e).2 y u (.inl h1) hf.1]
theorem any_py {d : D} {p : PyData} (hd : D.py d = some p) : ∀ {ds : List D} {ps : List PyData}, D.pys ds = some ps → (ps.any fun z => PyData.eqv z p) = ds.any fun y => D.beq y d
  | [], ps, h => by
    simp only [D.pys, Option.some.injEq] at h
    subst h
    rfl
  | y :: ds, ps, h => by
    simp only [D.pys] at h
    cases q1 : D.py y with
    | none => rw [q1] at h; cases h
    | some q =>
      cases q2 : D.pys ds with
      | none => rw [q1, q2] at h; cases h
      | some qs =>
        rw [q1, q2] at h
        cases h
        rw [List.any_cons, List.any_cons, any_py hd q2, py_beq y d q p q1 hd]
def rInU (K : PySem.W.Frag) (w : World) : R2 := fun x y H Q => rIn K false x y H Q ∨ rInD K x y H Q ∨ rInTD K x y H Q ∨ (∃ (c : Nat) (z : Str), x = .str ⟨#[c]⟩ ∧ y = .str z ∧ Q (.bl (decide (c ∈ z.cps.toList))) H)
def rNotInU (K : PySem.W.Frag) (w : World) : R2 := fun x y H Q => rIn K true x y H Q ∨ rNotInD K x y H Q ∨ rNotInTD K x y H Q ∨ (∃ (c : Nat) (z : Str), x = .str ⟨#[c]⟩ ∧ y = .str z ∧ Q (.bl (!decide (c ∈ z.cps.toList))) H)
theorem op_inU (hu : X.A.units + 65 < cLine) : OpR X (compareOp .In) (rInU X.K X.w) := op_in_seq.or ((op_inD hu).or ((op_inTD hu).or op_in_sign))
theorem op_notInU (hu : X.A.units + 65 < cLine) : OpR X (compareOp .NotIn) (rNotInU X.K X.w) := op_notIn_seq.or ((op_notInD hu).or ((op_notInTD hu).or op_notIn_sign))
theorem sign_of {z : Str} (h : z.length = 1) : z = ⟨#[z.cps.toList.headD 0]⟩ := by
  obtain ⟨⟨l⟩⟩ := z
  have h : l.length = 1 := h
  match l, h with
  | [c], _ => rfl
/-- both -/
theorem pur_inB (neg : Bool) {W : Wd} {H : Hp} {a b : D} {r : Bool} {x y : V} {Q : VK} (sub : SubF W H) (ra : Top K w W H a x) (rb : Top K w W H b y) (e : dIn a b = some r) (k : Q (.bl (if neg then !r else r)) H) :
    if neg then rNotInU K w x y H Q else rInU K w x y H Q := by
  cases b with
  | lst ys =>
    simp only [dIn] at e
    split at e
    · rename_i hf
      cases e
      simp only [Bool.and_eq_true] at hf
      obtain ⟨p, vs, rfl, h1, h2⟩ := rb.lst sub
      obtain ⟨q1, q2⟩ := in_flat ra hf.1 h2 hf.2
      have f1 := (flat_v ra hf.1).1
      cases neg with
      | false => exact .inl ⟨p, vs, rfl, .inl (SqL.of h1), f1, q1, by simpa [q2] using k⟩
      | true => exact .inl ⟨p, vs, rfl, .inl (SqL.of h1), f1, q1, by simpa [q2] using k⟩
    · split at e
      · rename_i hf
        cases e
        simp only [Bool.and_eq_true] at hf
        obtain ⟨p, p1, p2⟩ := fit_shaped hf.1
        obtain ⟨ps, g1, g2, g3⟩ := fits_pys 60 ys hf.2
        have g0 : D.py (.lst ys) = some (.list ps) := by simp [D.py, g1]
        have sh : SeqAt.shaped (.list ps) = true := by
          unfold SeqAt.shaped
          simp only [PyData.canLay0, g2, Bool.true_and, PyData.depth]
          exact decide_eq_true (by omega)
        rw [← any_py p1 g1] at k
        cases neg with
        | false => exact .inr (.inl ⟨p, ps, dp_top sub ra p1, dp_top sub rb g0, p2, sh, by simpa using k⟩)
        | true => exact .inr (.inl ⟨p, ps, dp_top sub ra p1, dp_top sub rb g0, p2, sh, by simpa using k⟩)
      · cases e
  | tup ys =>
    simp only [dIn] at e
    split at e
    · rename_i hf
      cases e
      simp only [Bool.and_eq_true] at hf
      obtain ⟨p, vs, rfl, h1, h2⟩ := rb.tup sub
      obtain ⟨q1, q2⟩ := in_flat ra hf.1 h2 hf.2
      have f1 := (flat_v ra hf.1).1
      cases neg with
      | false => exact .inl ⟨p, vs, rfl, .inr h1, f1, q1, by simpa [q2] using k⟩
      | true => exact .inl ⟨p, vs, rfl, .inr h1, f1, q1, by simpa [q2] using k⟩
    · split at e
      · rename_i hf
        cases e
        simp only [Bool.and_eq_true] at hf
        obtain ⟨p, p1, p2⟩ := fit_shaped hf.1
        obtain ⟨ps, g1, g2, g3⟩ := fits_pys 60 ys hf.2
        have g0 : D.py (.tup ys) = some (.tuple ps) := by simp [D.py, g1]
        have sh : SeqAt.shaped (.tuple ps) = true := by
          unfold SeqAt.shaped
          simp only [PyData.canLay0, g2, Bool.true_and, PyData.depth]
          exact decide_eq_true (by omega)
        rw [← any_py p1 g1] at k
        cases neg with
        | false => exact .inr (.inr (.inl ⟨p, ps, dp_top sub ra p1, dp_top sub rb g0, p2, sh, by simpa using k⟩))
        | true => exact .inr (.inr (.inl ⟨p, ps, dp_top sub ra p1, dp_top sub rb g0, p2, sh, by simpa using k⟩))
      · cases e
  | str z =>
    simp only [dIn] at e
    cases a with
    | str u =>
      simp only at e
      split at e
      · rename_i h1
        cases e
        have e1 := ra.str
        have e2 := rb.str
        subst e1; subst e2
        have e3 := sign_of h1
        cases neg with
        | false => exact .inr (.inr (.inr ⟨u.cps.toList.headD 0, z, by rw [← e3], rfl, by simpa using k⟩))
        | true => exact .inr (.inr (.inr ⟨u.cps.toList.headD 0, z, by rw [← e3], rfl, by simpa using k⟩))
      · cases e
    | _ => cases e
  | dct kvs => cases e
  | _ => cases e
theorem pur_in : Pur2 K w (rInU K w) fun a b => (dCmp .isin a b).map .bl := by
  intro W H a b d x y Q sub ra rb e k
  simp only [dCmp, Option.map_eq_some_iff] at e
  obtain ⟨r, e, rfl⟩ := e
  exact pur_inB false sub ra rb e (k _ _ (new_bl _))
theorem pur_notin : Pur2 K w (rNotInU K w) fun a b => (dCmp .notin a b).map .bl := by
  intro W H a b d x y Q sub ra rb e k
  simp only [dCmp, Option.map_eq_some_iff] at e
  obtain ⟨_, ⟨r, e, rfl⟩, rfl⟩ := e
  exact pur_inB true sub ra rb e (k _ _ (new_bl _))

/-! ### x[i] -/
theorem ixOf_eq (n : Nat) (i : Int) : ixN n i = ixOf n i := rfl
def rIxU (K : PySem.W.Frag) (w : World) : R2 := fun x y H Q => rIxL K x y H Q ∨ rIxT K x y H Q ∨ rIxS x y H Q
theorem ix_U : IxR X (rIxU X.K X.w) := ix_list.or (ix_tup.or ix_str)
end
/-- an item stands as it did -/
def Ix1 (K : PySem.W.Frag) (w : World) (r : R2) : Prop := ∀ (W : Wd) (H : Hp) (a b d : D) (x y : V) (Q : VK), SubF W H → Top K w W H a x → Top K w W H b y → dIdx a b = some d → (∀ v, Rep K w W d v → Q v H) → r x y H Q
section
variable {X : Cx} {K : PySem.W.Frag} {w : World}
theorem ix1_U : Ix1 K w (rIxU K w) := by
  intro W H a b d x y Q sub ra rb e k
  cases a with
  | lst xs =>
    cases b with
    | int i =>
      simp only [dIdx] at e
      cases q : ixOf xs.length i with
      | none => rw [q] at e; cases e
      | some j =>
        rw [q] at e
        have e : xs[j]? = some d := e
        obtain ⟨p, vs, rfl, h1, h2⟩ := ra.lst sub
        obtain ⟨v, v1, v2⟩ := reps_get h2 e
        refine .inl ⟨p, vs, i, v, rfl, rb.int, SqL.of h1, ?_, k v v2⟩
        unfold atI
        rw [ixOf_eq, reps_length h2, q]
        exact v1
    | _ => cases e
  | tup xs =>
    cases b with
    | int i =>
      simp only [dIdx] at e
      cases q : ixOf xs.length i with
      | none => rw [q] at e; cases e
      | some j =>
        rw [q] at e
        have e : xs[j]? = some d := e
        obtain ⟨p, vs, rfl, h1, h2⟩ := ra.tup sub
        obtain ⟨v, v1, v2⟩ := reps_get h2 e
        refine .inr (.inl ⟨p, vs, i, v, rfl, rb.int, h1, ?_, k v v2⟩)
        unfold atI
        rw [ixOf_eq, reps_length h2, q]
        exact v1
    | _ => cases e
  | str z =>
    cases b with
    | int i =>
      simp only [dIdx] at e
      split at e
      · rename_i hl
        cases q : ixOf z.length i with
        | none => rw [q] at e; cases e
        | some j =>
          rw [q] at e
          simp only [Option.bind_some, Option.map_eq_some_iff] at e
          obtain ⟨c, e, rfl⟩ := e
          refine .inr (.inr ⟨z, i, c, ra.str, rb.int, le_line hl, ?_, k _ (by simp [Rep])⟩)
          unfold atI
          rw [ixOf_eq, Array.length_toList, show z.cps.size = z.length from rfl, q]
          exact e
      · cases e
    | _ => cases e
  | dct kvs => cases e
  | _ => cases e

/-! ### x[i:j] -/
theorem cutIx_eq (n d : Nat) (o : Option Int) : HT.sIx n d o = cutIx n d o := by
  cases o with
  | none => rfl
  | some v =>
    unfold HT.sIx cutIx
    rfl
theorem cutV_eq (vs : List V) (lo hi : Option Int) : cutV vs lo hi = cutL vs lo hi := by
  unfold cutV cutL
  rw [cutIx_eq, cutIx_eq]
def rSlU (K : PySem.W.Frag) : V → Option Int → Option Int → Hp → VK → Prop := fun x lo hi H Q => rSlL K x lo hi H Q ∨ rSlA K x lo hi H Q ∨ rSlS x lo hi H Q
theorem sl_U : SlR X (rSlU X.K) := sl_list.or (sl_tupA.or sl_str)
theorem reps_cut {W : Wd} {ds : List D} {vs : List V} (lo hi : Option Int) (h : Reps K w W ds vs) : Reps K w W (cutL ds lo hi) (cutV vs lo hi) := by
  rw [cutV_eq]
  unfold cutL
  rw [reps_length h]
  exact reps_take _ (reps_drop _ h)
theorem pur_cut {W : Wd} {H : Hp} {a d : D} {lo hi : Option Int} {x : V} {Q : VK} (sub : SubF W H) (ra : Top K w W H a x) (e : dCut a lo hi = some d) (k : ∀ H' v, NewR K w W H H' d v → Q v H') : rSlU K x lo hi H Q := by
  cases a with
  | lst xs =>
    cases e
    obtain ⟨p, vs, rfl, h1, h2⟩ := ra.lst sub
    exact .inl ⟨p, vs, rfl, SqL.of h1, fun q hq => k _ _ (new_lst hq (reps_cut lo hi h2))⟩
  | tup xs =>
    cases e
    obtain ⟨p, vs, rfl, h1, h2⟩ := ra.tup sub
    refine .inr (.inl ⟨p, vs, rfl, h1, fun z => k _ _ ?_, fun z q hq => k _ _ (new_tup hq (reps_cut lo hi h2))⟩)
    have e1 : cutL xs lo hi = xs := by
      unfold cutL
      have l := reps_length h2
      rw [← cutIx_eq, ← cutIx_eq, ← l, z.1, z.2]
      simp [l]
    rw [e1]
    exact new_flat ra.tupR
  | str z =>
    simp only [dCut] at e
    split at e
    · rename_i h
      cases e
      refine .inr (.inr ⟨z, ra.str, le_line h, k _ _ ?_⟩)
      have : cutS z lo hi = ⟨(cutL z.cps.toList lo hi).toArray⟩ := by
        unfold cutS cutL
        rw [cutIx_eq, cutIx_eq, Array.length_toList]
        rfl
      rw [this]
      exact new_str _
    · cases e
  | _ => cases e
end
end PI
/-! expressions -/
namespace PI
open PySem L2

section
variable {X : Cx} {cl : Nat → Option Addr} {e a b c : Expr} {f g h fa fb fc : Env → Sto → Option (D × Sto)} {m : Md} {pos : Pos}
/-! ### names and constants -/
theorem pp_const {v : V} {d : D} (h : PE X e (tC v)) (r : ∀ W : Wd, Rep X.K X.w W d v) : PEp X cl e fun _ s => some (d, s) := PE.imp h fun σ H Q => by
  rintro ⟨W, env, sto, d', R, hf, k⟩
  simp only [Option.some.injEq, Prod.mk.injEq] at hf
  obtain ⟨rfl, _⟩ := hf
  exact k W H v (.refl _) (Same.refl _) R (r W)
theorem st_const {d : D} : ∀ (env : Env) (sto : Sto) (d' : D) (s' : Sto), (fun (_ : Env) (s : Sto) => some (d, s)) env sto = some (d', s') → s' = sto := fun _ _ _ _ h => by
  simp only [Option.some.injEq, Prod.mk.injEq] at h
  exact h.2.symm
theorem pp_var {i : Nat} (h : PE X e (tVar i)) : PEp X cl e (fVar i) := PE.imp h fun σ H Q => by
  rintro ⟨W, env, sto, d, R, hf, k⟩
  unfold fVar at hf
  split at hf
  · rename_i d0 e1
    simp only [Option.some.injEq, Prod.mk.injEq] at hf
    obtain ⟨rfl, _⟩ := hf
    obtain ⟨v, h1, h2⟩ := R.e.cell i _ e1
    exact ⟨v, h1, k W H v (.refl _) (Same.refl _) R h2⟩
  · cases hf
theorem st_var {i : Nat} : ∀ (env : Env) (sto : Sto) (d' : D) (s' : Sto), fVar i env sto = some (d', s') → s' = sto := fun env sto d' s' h => by
  unfold fVar at h
  split at h
  · simp only [Option.some.injEq, Prod.mk.injEq] at h
    exact h.2.symm
  · cases h
theorem pv_b {i : Nat} (h : PE X e (tVar i)) : PEv X cl .b e (fB i) := PE.imp h fun σ H Q => by
  rintro ⟨W, env, sto, d, sto', R, hf, k⟩
  unfold fB at hf
  split at hf
  · rename_i d0 e1
    simp only [Option.some.injEq, Prod.mk.injEq] at hf
    obtain ⟨rfl, rfl⟩ := hf
    obtain ⟨v, h1, h2⟩ := R.e.cell i _ e1
    exact ⟨v, h1, k W H v (.refl _) R (.inr ⟨i, _, e1, rfl, h1⟩)⟩
  · cases hf
/-! ### attributes -/
/-- what is known of the classes: cl the classes' addresses, fl their attributes -/
structure ClsH (K : PySem.W.Frag) (cl : Nat → Option Addr) (fl : Nat → Str → Bool) : Prop where
  cls : ∀ c C, cl c = some C → Cls K C
  no : ∀ c C x, cl c = some C → fl c x = true → NoAttr K C x
theorem fldOf_some {fl : Nat → Str → Bool} {x : Str} {own : Bool} {env : Env} {s s' : Sto} {d : D} (h : fldOf fl x f own env s = some (d, s')) : ∃ n c fs cd, f env s = some (.obj n, s') ∧ s'[n]? = some (.ins c fs) ∧ fl c x = true ∧ fs.lookup x = some cd ∧ cd.d = d ∧ (own = false → cd = .val d) := by
  unfold fldOf at h
  split at h
  · rename_i n s1 e1
    split at h
    · rename_i c fs e2
      split at h
      · rename_i e3
        split at h
        · rename_i d' e4
          simp only [Option.some.injEq, Prod.mk.injEq] at h
          obtain ⟨rfl, rfl⟩ := h
          exact ⟨n, c, fs, _, e1, e2, e3, e4, rfl, fun _ => rfl⟩
        · rename_i cd _ e4
          split at h
          · rename_i ho
            simp only [Option.some.injEq, Prod.mk.injEq] at h
            obtain ⟨rfl, rfl⟩ := h
            exact ⟨n, c, fs, cd, e1, e2, e3, e4, rfl, fun z => by rw [ho] at z; cases z⟩
          · cases h
        · cases h
      · cases h
    · cases h
  · cases h
theorem obj_at {K : PySem.W.Frag} {w : World} {W : Wd} {sto : Sto} {H : Hp} (R : RelS K w cl W sto H) {n : Nat} {v : V} {s : SObj} (r : Rep K w W (.obj n) v) (e : sto[n]? = some s) : ∃ a, v = .ref a ∧ W.E[n]? = some a ∧ ObjR K w cl W H a s := by
  unfold Rep at r
  obtain ⟨a, rfl, ha⟩ := r
  exact ⟨a, rfl, ha, R.ob n s a e ha⟩
theorem pv_bfld {fl : Nat → Str → Bool} {x : Str} (CH : ClsH X.K cl fl) (ha : PEv X cl .s a fa) (hb : attributeBase a x X.env (eval a X.env) = eval a X.env) : PEv X cl .t (.Attribute a x pos) (fldOf fl x fa true) := PE.imp (pe_fld ha hb) fun σ H Q => by
  rintro ⟨W, env, sto, d, sto', R, hf, k⟩
  obtain ⟨n, c, fs, cd, h1, h2, h3, h4, h5, _⟩ := fldOf_some hf
  refine ⟨W, env, sto, _, sto', R, h1, fun W1 H1 v le R1 r => ?_⟩
  obtain ⟨p, rfl, hp, C, dx, vs, q1, q2, q3⟩ := obj_at R1.s r h2
  rcases paired_lookup (G := fun c v => c.nl ∧ CellR X.K X.w W1 H1 c v) (paired_imp (fun _ _ z => z) q3) x with ⟨z, _⟩ | ⟨c1, v1, z1, z2, z3⟩
  · rw [z] at h4; cases h4
  · rw [h4] at z1
    cases z1
    refine ⟨p, C, dx, vs, v1, rfl, q1, CH.cls c C q2, CH.no c C x q2 h3, z2, k W1 H1 v1 le R1 ?_⟩
    rw [← h5]
    exact Top.cell R1.s.subP z3.2
theorem pp_fld {fl : Nat → Str → Bool} {x : Str} (CH : ClsH X.K cl fl) (ha : PEp X cl a fa) (hs : ∀ env sto d s', fa env sto = some (d, s') → s' = sto) (hb : attributeBase a x X.env (eval a X.env) = eval a X.env) : PEp X cl (.Attribute a x pos) (fldOf fl x fa false) := PE.imp (pe_fld ha hb) fun σ H Q => by
  rintro ⟨W, env, sto, d, R, hf, k⟩
  obtain ⟨n, c, fs, cd, h1, h2, h3, h4, h5, h6⟩ := fldOf_some hf
  refine ⟨W, env, sto, _, R, h1, fun W1 H1 v le sm R1 r => ?_⟩
  obtain ⟨p, rfl, hp, C, dx, vs, q1, q2, q3⟩ := obj_at R1.s r h2
  rcases paired_lookup (G := fun c v => c.nl ∧ CellR X.K X.w W1 H1 c v) (paired_imp (fun _ _ z => z) q3) x with ⟨z, _⟩ | ⟨c1, v1, z1, z2, z3⟩
  · rw [z] at h4; cases h4
  · rw [h4] at z1
    cases z1
    have e := h6 rfl
    subst e
    exact ⟨p, C, dx, vs, v1, rfl, q1, CH.cls c C q2, CH.no c C x q2 h3, z2, k W1 H1 v1 le sm R1 z3.2⟩
theorem pv_fld {fl : Nat → Str → Bool} {x : Str} (CH : ClsH X.K cl fl) (ha : PEv X cl .s a fa) (hb : attributeBase a x X.env (eval a X.env) = eval a X.env) : PEv X cl .s (.Attribute a x pos) (fldOf fl x fa false) := PE.imp (pe_fld ha hb) fun σ H Q => by
  rintro ⟨W, env, sto, d, sto', R, hf, k⟩
  obtain ⟨n, c, fs, cd, h1, h2, h3, h4, h5, h6⟩ := fldOf_some hf
  refine ⟨W, env, sto, _, sto', R, h1, fun W1 H1 v le R1 r => ?_⟩
  obtain ⟨p, rfl, hp, C, dx, vs, q1, q2, q3⟩ := obj_at R1.s r h2
  rcases paired_lookup (G := fun c v => c.nl ∧ CellR X.K X.w W1 H1 c v) (paired_imp (fun _ _ z => z) q3) x with ⟨z, _⟩ | ⟨c1, v1, z1, z2, z3⟩
  · rw [z] at h4; cases h4
  · rw [h4] at z1
    cases z1
    have e := h6 rfl
    subst e
    exact ⟨p, C, dx, vs, v1, rfl, q1, CH.cls c C q2, CH.no c C x q2 h3, z2, k W1 H1 v1 le R1 z3.2⟩
theorem st_fld {fl : Nat → Str → Bool} {x : Str} {own : Bool} (hs : ∀ env sto d s', fa env sto = some (d, s') → s' = sto) : ∀ (env : Env) (sto : Sto) (d' : D) (s' : Sto), fldOf fl x fa own env sto = some (d', s') → s' = sto := fun env sto d' s' h => by
  obtain ⟨n, c, fs, cd, h1, _⟩ := fldOf_some h
  exact hs _ _ _ _ h1
/-! ### operators -/
theorem pv_ops {r : R2} {k : D → D → Option D} (hr : Pur2 X.K X.w r k) {E : Expr} (h : ∀ ta tb, PE X a ta → PE X b tb → PE X E (tOp r ta tb)) (q : Two X cl a b fa fb) : PEv X cl .n E (f2 fa fb k) := by
  obtain ⟨ta, tb, ha, hb, q⟩ := q
  exact PE.imp (h ta tb ha hb) fun σ H Q z => two_op hr q z
theorem pp_ops {r : R2} {k : D → D → Option D} (hr : Pur2 X.K X.w r k) {E : Expr} (h : ∀ ta tb, PE X a ta → PE X b tb → PE X E (tOp r ta tb)) (ha : PEp X cl a fa) (hb : PEp X cl b fb)
    (sa : ∀ env sto d s', fa env sto = some (d, s') → s' = sto) (sb : ∀ env sto d s', fb env sto = some (d, s') → s' = sto) : PEp X cl E (f2 fa fb k) := PE.imp (h _ _ ha hb) fun σ H Q => by
  rintro ⟨W, env, sto, d, R, hf, q⟩
  obtain ⟨x, s1, y, e1, e2, e3⟩ := f2_some hf
  have z1 := sa _ _ _ _ e1
  subst z1
  refine ⟨W, env, s1, x, R, e1, fun W1 H1 v le1 m1 R1 r1 => ?_⟩
  refine ⟨W1, env, s1, y, R1, e2, fun W2 H2 u le2 m2 R2 r2 => ?_⟩
  refine hr W2 H2 x y d v u Q R2.s.subF (.inl (rep_mono le2.le _ _ r1)) (.inl r2) e3 fun H3 z nr => ?_
  rcases nr with ⟨rfl, n1, _⟩ | ⟨p, o, rfl, hp, rfl, hm⟩
  · exact q W2 H3 z (le1.trans le2) (m1.trans m2) R2 n1
  · have fr := free_new (o := o) R2 hp
    exact q (W2.frz p o) _ _ ((le1.trans le2).trans (frz_ext fr.F)) ((m1.trans m2).trans (same_new hp)) (rel_frz (rel_new R2 hp) upd_same fr) (rep_frz fr.F hm)
theorem st_ops {k : D → D → Option D} (sa : ∀ env sto d s', fa env sto = some (d, s') → s' = sto) (sb : ∀ env sto d s', fb env sto = some (d, s') → s' = sto) : ∀ (env : Env) (sto : Sto) (d' : D) (s' : Sto), f2 fa fb k env sto = some (d', s') → s' = sto := fun env sto d' s' h => by
  obtain ⟨x, s1, y, e1, e2, e3⟩ := f2_some h
  have z1 := sa _ _ _ _ e1
  subst z1
  exact sb _ _ _ _ e2
/-- an item of a thing -/
theorem pv_idx {r : R2} (hr : Ix1 X.K X.w r) (ho : IxR X r) (hs : PlainIx b) (q : Two X cl a b fa fb) : PEv X cl .s (.Subscript a b pos) (f2 fa fb dIdx) := by
  obtain ⟨ta, tb, ha, hb, q⟩ := q
  refine PE.imp (pe_ix ho ha hb hs) fun σ H Q => ?_
  rintro ⟨W, env, sto, d, sto', R, hf, k⟩
  obtain ⟨x, s1, y, e1, e2, e3⟩ := f2_some hf
  refine q σ H _ ⟨W, env, sto, x, s1, y, sto', R, e1, e2, fun W' H' v u le R' r1 r2 => ?_⟩
  exact hr W' H' x y d v u Q R'.s.subF r1 r2 e3 fun z rz => k W' H' z le R' rz
/-! ### tests -/
theorem fIf_some {t : Env → Sto → Option (D × Sto)} {env : Env} {s s' : Sto} {d : D} (h : fIf t f g env s = some (d, s')) : ∃ b s1, t env s = some (.bl b, s1) ∧ (if b = true then f env s1 else g env s1) = some (d, s') := by
  unfold fIf at h
  split at h
  · rename_i s1 e
    exact ⟨true, s1, e, by rw [if_pos rfl]; exact h⟩
  · rename_i s1 e
    exact ⟨false, s1, e, by rw [if_neg Bool.false_ne_true]; exact h⟩
  · cases h
theorem pt_of (ha : PEv X cl .s a fa) (he : ∀ whole, isTrue a X.env whole = (do let v ← whole; standAt a.pos; holding [v] (truthy v))) : PTv X cl a fa := PT.imp (pt_val ha he) fun σ H Q => by
  rintro ⟨W, env, sto, b, sto', R, hf, k⟩
  refine ⟨W, env, sto, _, sto', R, hf, fun W' H' v le R' r => ?_⟩
  unfold Res Rep at r
  exact ⟨b, r, k W' H' le R'⟩
theorem pt_ops {r : R2} {k : D → D → Option D} (hr : Pur2 X.K X.w r k) {E : Expr} (h : ∀ ta tb, PE X a ta → PE X b tb → PT X E (tTest (tOp r ta tb))) (q : Two X cl a b fa fb) : PTv X cl E (f2 fa fb k) := by
  obtain ⟨ta, tb, ha, hb, q⟩ := q
  refine PT.imp (h ta tb ha hb) fun σ H Q => ?_
  rintro ⟨W, env, sto, b, sto', R, hf, z⟩
  refine two_op hr q ⟨W, env, sto, _, sto', R, hf, fun W' H' v le R' r => ?_⟩
  rcases r with ⟨r, _⟩ | ⟨p, o, rfl, _, hm, _⟩
  · unfold Rep at r
    exact ⟨b, r, z W' H' le R'⟩
  · rcases hm with hm | ⟨ds, vs, e, _⟩
    · exact hm.elim
    · cases e
theorem pt_notv (ha : PTv X cl a fa) : PTv X cl (.UnaryOp .Not a pos) (fNot fa) := PT.imp (pt_not ha) fun σ H Q => by
  rintro ⟨W, env, sto, b, sto', R, hf, k⟩
  unfold fNot at hf
  split at hf
  · rename_i b1 s1 e1
    simp only [Option.some.injEq, Prod.mk.injEq, D.bl.injEq] at hf
    obtain ⟨rfl, rfl⟩ := hf
    exact ⟨W, env, sto, b1, s1, R, e1, fun W' H' le R' => k W' H' le R'⟩
  · cases hf
theorem pw_and1v (ha : PTv X cl a fa) : PWv X cl (.BoolOp .And [a] pos) fa := pw_and1 ha
theorem pw_or1v (ha : PTv X cl a fa) : PWv X cl (.BoolOp .Or [a] pos) fa := pw_or1 ha
theorem pw_andv {rest : List Expr} (ha : PTv X cl a fa) (hb : PWv X cl (.BoolOp .And (b :: rest) pos) fb) : PWv X cl (.BoolOp .And (a :: b :: rest) pos) (fAnd fa fb) := PW.imp (pw_and ha hb) fun σ H Q => by
  rintro ⟨W, env, sto, b, sto', R, hf, k⟩
  unfold fAnd at hf
  split at hf
  · rename_i s1 e1
    refine ⟨W, env, sto, true, s1, R, e1, fun W1 H1 le1 R1 => ?_⟩
    show (if true = true then _ else _)
    rw [if_pos rfl]
    exact ⟨W1, env, s1, b, sto', R1, hf, fun W2 H2 le2 R2 => k W2 H2 (le1.trans le2) R2⟩
  · rename_i s1 e1
    simp only [Option.some.injEq, Prod.mk.injEq, D.bl.injEq] at hf
    obtain ⟨rfl, rfl⟩ := hf
    refine ⟨W, env, sto, false, s1, R, e1, fun W1 H1 le1 R1 => ?_⟩
    show (if false = true then _ else _)
    rw [if_neg Bool.false_ne_true]
    exact k W1 H1 le1 R1
  · cases hf
theorem pw_orv {rest : List Expr} (ha : PTv X cl a fa) (hb : PWv X cl (.BoolOp .Or (b :: rest) pos) fb) : PWv X cl (.BoolOp .Or (a :: b :: rest) pos) (fOr fa fb) := PW.imp (pw_or ha hb) fun σ H Q => by
  rintro ⟨W, env, sto, b, sto', R, hf, k⟩
  unfold fOr at hf
  split at hf
  · rename_i s1 e1
    simp only [Option.some.injEq, Prod.mk.injEq, D.bl.injEq] at hf
    obtain ⟨rfl, rfl⟩ := hf
    refine ⟨W, env, sto, true, s1, R, e1, fun W1 H1 le1 R1 => ?_⟩
    show (if true = true then _ else _)
    rw [if_pos rfl]
    exact k W1 H1 le1 R1
  · rename_i s1 e1
    refine ⟨W, env, sto, false, s1, R, e1, fun W1 H1 le1 R1 => ?_⟩
    show (if false = true then _ else _)
    rw [if_neg Bool.false_ne_true]
    exact ⟨W1, env, s1, b, sto', R1, hf, fun W2 H2 le2 R2 => k W2 H2 (le1.trans le2) R2⟩
  · cases hf
/-! ### as values -/
theorem pv_notv (ha : PEv X cl .s a fa) : PEv X cl .n (.UnaryOp .Not a pos) (fNot fa) := PE.imp (pe_not ha) fun σ H Q => by
  rintro ⟨W, env, sto, d, sto', R, hf, k⟩
  unfold fNot at hf
  split at hf
  · rename_i b1 s1 e1
    simp only [Option.some.injEq, Prod.mk.injEq] at hf
    obtain ⟨rfl, rfl⟩ := hf
    refine ⟨W, env, sto, _, s1, R, e1, fun W' H' v le R' r => ?_⟩
    unfold Res Rep at r
    exact ⟨b1, r, k W' H' _ le R' (.inl ⟨by simp [Rep], rfl⟩)⟩
  · cases hf
theorem pv_one {op : BoolOp} (ha : PEv X cl .s a fa) : PEv X cl .s (.BoolOp op [a] pos) fa := pe_one ha
theorem pv_and {rest : List Expr} (ha : PEv X cl .s a fa) (hb : PEv X cl .s (.BoolOp .And (b :: rest) pos) fb) : PEv X cl .s (.BoolOp .And (a :: b :: rest) pos) (fAnd fa fb) := PE.imp (pe_and ha hb) fun σ H Q => by
  rintro ⟨W, env, sto, d, sto', R, hf, k⟩
  unfold fAnd at hf
  split at hf
  · rename_i s1 e1
    refine ⟨W, env, sto, _, s1, R, e1, fun W1 H1 v le1 R1 r => ?_⟩
    unfold Res Rep at r
    refine ⟨true, r, ?_⟩
    rw [if_pos rfl]
    exact ⟨W1, env, s1, d, sto', R1, hf, fun W2 H2 u le2 R2 r2 => k W2 H2 u (le1.trans le2) R2 r2⟩
  · rename_i s1 e1
    simp only [Option.some.injEq, Prod.mk.injEq] at hf
    obtain ⟨rfl, rfl⟩ := hf
    refine ⟨W, env, sto, _, s1, R, e1, fun W1 H1 v le1 R1 r => ?_⟩
    unfold Res Rep at r
    refine ⟨false, r, ?_⟩
    rw [if_neg Bool.false_ne_true]
    exact k W1 H1 _ le1 R1 (by unfold Res Rep; rfl)
  · cases hf
theorem pv_or {rest : List Expr} (ha : PEv X cl .s a fa) (hb : PEv X cl .s (.BoolOp .Or (b :: rest) pos) fb) : PEv X cl .s (.BoolOp .Or (a :: b :: rest) pos) (fOr fa fb) := PE.imp (pe_or ha hb) fun σ H Q => by
  rintro ⟨W, env, sto, d, sto', R, hf, k⟩
  unfold fOr at hf
  split at hf
  · rename_i s1 e1
    simp only [Option.some.injEq, Prod.mk.injEq] at hf
    obtain ⟨rfl, rfl⟩ := hf
    refine ⟨W, env, sto, _, s1, R, e1, fun W1 H1 v le1 R1 r => ?_⟩
    unfold Res Rep at r
    refine ⟨true, r, ?_⟩
    rw [if_pos rfl]
    exact k W1 H1 _ le1 R1 (by unfold Res Rep; rfl)
  · rename_i s1 e1
    refine ⟨W, env, sto, _, s1, R, e1, fun W1 H1 v le1 R1 r => ?_⟩
    unfold Res Rep at r
    refine ⟨false, r, ?_⟩
    rw [if_neg Bool.false_ne_true]
    exact ⟨W1, env, s1, d, sto', R1, hf, fun W2 H2 u le2 R2 r2 => k W2 H2 u (le1.trans le2) R2 r2⟩
  · cases hf
theorem res_mono {K : PySem.W.Frag} {w : World} {W W' : Wd} {env : Env} {s : Sto} {σ : St} {H : Hp} {d : D} {v : V} (h : Res K w m W env s σ H d v) : Res K w m W env s σ H d v := h
theorem pv_if (hc : PTv X cl c fc) (ha : PEv X cl m a fa) (hb : PEv X cl m b fb) : PEv X cl m (.IfExp c a b pos) (fIf fc fa fb) := PE.imp (pe_ifExp hc ha hb) fun σ H Q => by
  rintro ⟨W, env, sto, d, sto', R, hf, k⟩
  obtain ⟨b1, s1, e1, e2⟩ := fIf_some hf
  refine ⟨W, env, sto, b1, s1, R, e1, fun W1 H1 le1 R1 => ?_⟩
  cases b1 with
  | true =>
    rw [if_pos rfl] at e2 ⊢
    exact ⟨W1, env, s1, d, sto', R1, e2, fun W2 H2 u le2 R2 r2 => k W2 H2 u (le1.trans le2) R2 r2⟩
  | false =>
    rw [if_neg Bool.false_ne_true] at e2 ⊢
    exact ⟨W1, env, s1, d, sto', R1, e2, fun W2 H2 u le2 R2 r2 => k W2 H2 u (le1.trans le2) R2 r2⟩
/-! ### rows, tuples, lists -/
theorem fCons_some {g : Env → Sto → Option (List D × Sto)} {env : Env} {s s' : Sto} {ds : List D} (h : fCons f g env s = some (ds, s')) : ∃ d s1 r, f env s = some (d, s1) ∧ g env s1 = some (r, s') ∧ ds = d :: r := by
  unfold fCons at h
  split at h
  · rename_i d s1 e1
    split at h
    · rename_i r s2 e2
      simp only [Option.some.injEq, Prod.mk.injEq] at h
      obtain ⟨rfl, rfl⟩ := h
      exact ⟨d, s1, r, e1, e2, rfl⟩
    · cases h
  · cases h
theorem pa_nilv : PAv X cl [] fun _ s => some ([], s) := PA.imp pa_nil fun σ H Q => by
  rintro ⟨W, env, sto, ds, sto', R, hf, k⟩
  simp only [Option.some.injEq, Prod.mk.injEq] at hf
  obtain ⟨rfl, rfl⟩ := hf
  exact k W H [] (.refl _) R (by simp [Reps])
theorem pa_consv {es : List Expr} {g : Env → Sto → Option (List D × Sto)} (ha : PEv X cl .s a fa) (hr : PAv X cl es g) (hs : starEach (a :: es) X.env = (false, eval a X.env) :: starEach es X.env) : PAv X cl (a :: es) (fCons fa g) := PA.imp (pa_cons ha hr hs) fun σ H Q => by
  rintro ⟨W, env, sto, ds, sto', R, hf, k⟩
  obtain ⟨d, s1, r, e1, e2, rfl⟩ := fCons_some hf
  refine ⟨W, env, sto, d, s1, R, e1, fun W1 H1 v le1 R1 r1 => ?_⟩
  refine ⟨W1, env, s1, r, sto', R1, e2, fun W2 H2 vs le2 R2 r2 => ?_⟩
  exact k W2 H2 (v :: vs) (le1.trans le2) R2 (by unfold Reps; exact ⟨v, vs, rfl, rep_mono le2.le _ _ r1, r2⟩)
theorem fTup_some {g : Env → Sto → Option (List D × Sto)} {env : Env} {s s' : Sto} {d : D} (h : fTup g env s = some (d, s')) : ∃ ds, g env s = some (ds, s') ∧ ds.length ≤ LIM ∧ d = .tup ds := by
  unfold fTup at h
  split at h
  · rename_i ds s1 e1
    split at h
    · rename_i hl
      simp only [Option.some.injEq, Prod.mk.injEq] at h
      obtain ⟨rfl, rfl⟩ := h
      exact ⟨ds, e1, hl, rfl⟩
    · cases h
  · cases h
theorem fLst_some {g : Env → Sto → Option (List D × Sto)} {env : Env} {s s' : Sto} {d : D} (h : fLst g env s = some (d, s')) : ∃ ds, g env s = some (ds, s') ∧ ds.length ≤ LIM ∧ d = .lst ds := by
  unfold fLst at h
  split at h
  · rename_i ds s1 e1
    split at h
    · rename_i hl
      simp only [Option.some.injEq, Prod.mk.injEq] at h
      obtain ⟨rfl, rfl⟩ := h
      exact ⟨ds, e1, hl, rfl⟩
    · cases h
  · cases h
theorem pv_tup {es : List Expr} {g : Env → Sto → Option (List D × Sto)} {k1 : Nat} (h : PAv X cl es g) : PEv X cl .n (.Tuple es k1 pos) (fTup g) := PE.imp (pe_tup h) fun σ H Q => by
  rintro ⟨W, env, sto, d, sto', R, hf, k⟩
  obtain ⟨ds, e1, hl, rfl⟩ := fTup_some hf
  refine ⟨W, env, sto, ds, sto', R, e1, fun W1 H1 vs le1 R1 r1 => ⟨by rw [reps_length r1]; exact le_line hl, fun p hp => ?_⟩⟩
  have nr := NewR.res R1 (new_tup hp r1)
  exact k W1 _ _ le1 nr.1 nr.2
theorem pv_lst {es : List Expr} {g : Env → Sto → Option (List D × Sto)} (h : PAv X cl es g) : PEv X cl .n (.List es pos) (fLst g) := PE.imp (pe_lst h) fun σ H Q => by
  rintro ⟨W, env, sto, d, sto', R, hf, k⟩
  obtain ⟨ds, e1, hl, rfl⟩ := fLst_some hf
  refine ⟨W, env, sto, ds, sto', R, e1, fun W1 H1 vs le1 R1 r1 => ⟨by rw [reps_length r1]; exact le_line hl, fun p hp => ?_⟩⟩
  have nr := NewR.res R1 (new_lst hp r1)
  exact k W1 _ _ le1 nr.1 nr.2
theorem pv_dnil : PEv X cl .n (.Dict [] [] pos) fun _ s => some (.dct [], s) := PE.imp pe_dnewK fun σ H Q => by
  rintro ⟨W, env, sto, d, sto', R, hf, k⟩
  simp only [Option.some.injEq, Prod.mk.injEq] at hf
  obtain ⟨rfl, rfl⟩ := hf
  intro p hp
  have nr := NewR.res R (d := .dct []) (v := .ref p) (H' := upd H p (.dK [])) (.inr ⟨p, _, rfl, hp, rfl, .inl (.inl ⟨[], rfl, by simp [RepK]⟩)⟩)
  exact k W _ _ (.refl _) nr.1 nr.2
/-! ### slices -/
def tOo (K : PySem.W.Frag) (w : World) (cl : Nat → Option Addr) (f : Env → Sto → Option (Option Int × Sto)) : TO := fun σ H Q => ∃ W env sto o sto', Rel K w cl W env sto σ H ∧ f env sto = some (o, sto') ∧
  ∀ W' H', W.Ext W' → Rel K w cl W' env sto' σ H' → Q o H'
abbrev POv (X : Cx) (cl : Nat → Option Addr) (e : Option Expr) (f : Env → Sto → Option (Option Int × Sto)) : Prop := PO X e (tOo X.K X.w cl f)
theorem fCut_some {g h : Env → Sto → Option (Option Int × Sto)} {env : Env} {s s' : Sto} {d : D} (z : fCut f g h env s = some (d, s')) : ∃ a s1 l s2 u, f env s = some (a, s1) ∧ g env s1 = some (l, s2) ∧ h env s2 = some (u, s') ∧ dCut a l u = some d := by
  unfold fCut at z
  split at z
  · rename_i a s1 e1
    split at z
    · rename_i l s2 e2
      split at z
      · rename_i u s3 e3
        cases e4 : dCut a l u with
        | none => rw [e4] at z; cases z
        | some c =>
          rw [e4] at z
          simp only [Option.map_some, Option.some.injEq, Prod.mk.injEq] at z
          obtain ⟨rfl, rfl⟩ := z
          exact ⟨a, s1, l, s2, u, e1, e2, e3, e4⟩
      · cases z
    · cases z
  · cases z
theorem po_nonev : POv X cl none fun _ s => some (none, s) := by
  refine ⟨fun pins s σ H Q I q => po_none.run pins s σ H Q I ?_⟩
  obtain ⟨W, env, sto, o, sto', R, hf, k⟩ := q
  simp only [Option.some.injEq, Prod.mk.injEq] at hf
  obtain ⟨rfl, rfl⟩ := hf
  exact k W H (.refl _) R
theorem po_somev (ha : PEv X cl .s a fa) : POv X cl (some a) (fPart fa) := by
  refine ⟨fun pins s σ H Q I q => (po_some ha).run pins s σ H Q I ?_⟩
  obtain ⟨W, env, sto, o, sto', R, hf, k⟩ := q
  unfold fPart at hf
  split at hf
  · rename_i i s1 e1
    simp only [Option.some.injEq, Prod.mk.injEq] at hf
    obtain ⟨rfl, rfl⟩ := hf
    refine ⟨W, env, sto, _, s1, R, e1, fun W1 H1 v le R1 r => ?_⟩
    unfold Res Rep at r
    exact ⟨i, r, k W1 H1 le R1⟩
  · cases hf
end
end PI
/-! calls -/
namespace PI
open PySem L2

/-! ### what a function promises -/
def Cell.no : Cell → Prop
  | .own _ => False
  | _ => True
section
variable (K : PySem.W.Frag) (w : World) (cl : Nat → Option Addr)
def ArgR (W : Wd) (H : Hp) (cs : List Cell) (vs : List V) : Prop := Paired (fun c v => Cell.no c ∧ CellR K w W H c v) cs vs
/-- what comes back -/
def ResF (ro : Bool) (W : Wd) (sto : Sto) (H : Hp) (d : D) (v : V) : Prop := match ro with
  | false => Rep K w W d v
  | true => (Rep K w W d v ∧ d.ld = false) ∨ ∃ p o, v = .ref p ∧ H p = some o ∧ Make K w W p d o ∧ W.F p = none ∧ W.P p = none ∧ p ∉ W.E ∧ ∀ n f, ¬ FOwn W sto H n f p
def spOf (R : Run) (i np : Nat) (ro : Bool) : Sp := fun vs H Q _ => vs.length = np ∧ ∃ W sto cs d sto', RelS K w cl W sto H ∧ ArgR K w W H cs vs ∧ R i cs sto = some (d, sto') ∧
  ∀ W' H' v, W.Ext W' → RelS K w cl W' sto' H' → ResF K w ro W' sto' H' d v → Q v H'
end
/-- the function i of the text stands at f -/
structure FnH0 (P : Program) (w : World) (K : PySem.W.Frag) (mg : Str → Option Value) (base : Heap) (cl : Nat → Option Addr) (R : Run) (i : Nat) (ro : Bool) (lv : Nat) (f : Addr) : Prop where
  ex : ∃ fd ps, FnOk P w K mg base CX0 lv f fd ps (spOf K w cl R i ps.length ro) ∧ Binds K fd ps [] ∧ ∀ cs s r, R i cs s = some r → cs.length = ps.length
abbrev FnH (X : Cx) (cl : Nat → Option Addr) (R : Run) (i : Nat) (ro : Bool) (lv : Nat) (f : Addr) : Prop := FnH0 X.prog X.w X.K X.mg X.base cl R i ro lv f
section
variable {X : Cx} {cl : Nat → Option Addr} {e a b c : Expr} {fa fb fc : Fe} {m : Md} {pos p : Pos} {R : Run}
/-- arguments at the caller -/
def ArgC (K : PySem.W.Frag) (w : World) (W : Wd) (env : Env) (σ : St) (cs : List Cell) (vs : List V) : Prop :=
  Paired (fun c v => (∃ d, c = .val d ∧ Rep K w W d v) ∨ ∃ (i : Nat) (c0 : Cell), env[i]? = some (some c0) ∧ σ[i]? = some (some v) ∧ c = lk c0) cs vs
def tAc (K : PySem.W.Frag) (w : World) (cl : Nat → Option Addr) (f : Fa) : TA := fun σ H Q => ∃ W env sto cs sto', Rel K w cl W env sto σ H ∧ f env sto = some (cs, sto') ∧
  ∀ W' H' vs, W.Ext W' → Rel K w cl W' env sto' σ H' → ArgC K w W' env σ cs vs → Q vs H'
abbrev PAc (X : Cx) (cl : Nat → Option Addr) (es : List Expr) (f : Fa) : Prop := PA X es (tAc X.K X.w cl f)
theorem paired_length {α β : Type} {G : α → β → Prop} : ∀ {l : List α} {l' : List β}, Paired G l l' → l.length = l'.length
  | _, _, .nil => rfl
  | _, _, .cons _ r => by rw [List.length_cons, List.length_cons, paired_length r]
theorem argC_mono {K : PySem.W.Frag} {w : World} {W W' : Wd} {env : Env} {σ : St} {cs : List Cell} {vs : List V} (le : W.Le W') (h : ArgC K w W env σ cs vs) : ArgC K w W' env σ cs vs :=
  paired_imp (fun c v z => z.elim (fun ⟨d, e, r⟩ => .inl ⟨d, e, rep_mono le _ _ r⟩) .inr) h
theorem argC_R {K : PySem.W.Frag} {w : World} {W : Wd} {env : Env} {sto : Sto} {σ : St} {H : Hp} {cs : List Cell} {vs : List V} (R : Rel K w cl W env sto σ H) (h : ArgC K w W env σ cs vs) : ArgR K w (W.lockAll env σ H) H cs vs :=
  paired_imp (fun c v z => by
    rcases z with ⟨d, rfl, r⟩ | ⟨i, c0, h1, h2, rfl⟩
    · exact ⟨True.intro, rep_mono (le_P _) _ _ r⟩
    · obtain ⟨v', q1, q2⟩ := R.e.cell i c0 h1
      rw [h2] at q1
      cases q1
      cases c0 with
      | val d => exact ⟨True.intro, rep_mono (le_P _) _ _ q2⟩
      | own d =>
        obtain ⟨p, o, rfl, g1, g2, g3, g4⟩ := q2
        exact ⟨True.intro, p, o, o, rfl, by rw [(lockAll_own R.e h1 h2).1]; exact g1, .inl rfl, cont_mono (le_P _) g2⟩
      | lck d =>
        obtain ⟨p, o, u, rfl, g1, g2, g3⟩ := q2
        exact ⟨True.intro, p, o, u, rfl, lockAll_old g1, g2, cont_mono (le_P _) g3⟩) h
theorem pc_nil : PAc X cl [] fun _ s => some ([], s) := PA.imp pa_nil fun σ H Q => by
  rintro ⟨W, env, sto, ds, sto', R, hf, k⟩
  simp only [Option.some.injEq, Prod.mk.injEq] at hf
  obtain ⟨rfl, rfl⟩ := hf
  exact k W H [] (.refl _) R .nil
theorem pc_v {es : List Expr} {g : Fa} (ha : PEv X cl .s a fa) (hr : PAc X cl es g) (hs : starEach (a :: es) X.env = (false, eval a X.env) :: starEach es X.env) : PAc X cl (a :: es) (aV fa g) := PA.imp (pa_cons ha hr hs) fun σ H Q => by
  rintro ⟨W, env, sto, cs, sto', R, hf, k⟩
  unfold aV at hf
  split at hf
  · rename_i d s1 e1
    split at hf
    · rename_i r s2 e2
      simp only [Option.some.injEq, Prod.mk.injEq] at hf
      obtain ⟨rfl, rfl⟩ := hf
      refine ⟨W, env, sto, d, s1, R, e1, fun W1 H1 v le1 R1 r1 => ?_⟩
      refine ⟨W1, env, s1, r, s2, R1, e2, fun W2 H2 vs le2 R2 r2 => ?_⟩
      exact k W2 H2 (v :: vs) (le1.trans le2) R2 (.cons (.inl ⟨d, rfl, rep_mono le2.le _ _ r1⟩) r2)
    · cases hf
  · cases hf
theorem pc_b {es : List Expr} {g : Fa} {i : Nat} (ha : PE X a (tVar i)) (hr : PAc X cl es g) (hs : starEach (a :: es) X.env = (false, eval a X.env) :: starEach es X.env) : PAc X cl (a :: es) (aB i g) := PA.imp (pa_cons ha hr hs) fun σ H Q => by
  rintro ⟨W, env, sto, cs, sto', R, hf, k⟩
  unfold aB at hf
  split at hf
  · rename_i c0 e1
    split at hf
    · rename_i r s2 e2
      simp only [Option.some.injEq, Prod.mk.injEq] at hf
      obtain ⟨rfl, rfl⟩ := hf
      obtain ⟨v, h1, h2⟩ := R.e.cell i _ e1
      refine ⟨v, h1, W, env, sto, r, s2, R, e2, fun W2 H2 vs le2 R2 r2 => ?_⟩
      exact k W2 H2 (v :: vs) le2 R2 (.cons (.inr ⟨i, c0, e1, h1, rfl⟩) r2)
    · cases hf
  · cases hf
/-- back at the caller -/
theorem call_back {ro : Bool} {K : PySem.W.Frag} {w : World} {W W' : Wd} {env : Env} {sto sto' : Sto} {σ : St} {H H' : Hp} {d : D} {v : V} (R0 : Rel K w cl W env sto σ H) (le : (W.lockAll env σ H).Ext W') (R' : RelS K w cl W' sto' H') (r : ResF K w ro W' sto' H' d v) :
    W.Ext { W' with P := W.P } ∧ Rel K w cl { W' with P := W.P } env sto' σ H' ∧ Res K w (if ro then .n else .s) { W' with P := W.P } env sto' σ H' d v := by
  have hL : W'.L = W.L := le.L
  have R2 := rel_back R0 le.le le.P hL R'
  refine ⟨⟨⟨le.le.1, le.le.2⟩, rfl, hL⟩, R2, ?_⟩
  cases ro with
  | false => exact rep_mono (le_P _) _ _ r
  | true =>
    rcases r with ⟨r, hl⟩ | ⟨p, o, rfl, h1, h2, h3, h4, h5, h6⟩
    · exact .inl ⟨rep_mono (le_P _) _ _ r, hl⟩
    · have pn : W.P p = none := by
        cases q : W.P p with
        | none => rfl
        | some u =>
          rw [le.P, lockAll_old q] at h4
          cases h4
      refine .inr ⟨p, o, rfl, h1, ?_, h3, pn, h5, h6, fun i d' e1 e2 => ?_⟩
      · rcases h2 with h2 | ⟨ds, vs, e1, e2, h2⟩
        · exact .inl (cont_mono (le_P _) h2)
        · exact .inr ⟨ds, vs, e1, e2, reps_mono (le_P _) _ _ h2⟩
      · obtain ⟨v', q1, p', o', q2, q3, _⟩ := R0.e.cell i _ e1
        rw [e2] at q1
        cases q1
        cases q2
        rw [le.P, (lockAll_own R0.e e1 e2).1, q3] at h4
        cases h4
theorem run_call {i lv : Nat} {ro : Bool} {f : Addr} {ps : List Str} {K : PySem.W.Frag} {w : World} {cs : List Cell} {s1 sto' : Sto} {d : D} {W env σ H vs} {Q : VK} {E : XK} (ar : ∀ cs s r, R i cs s = some r → cs.length = ps.length) (hrun : R i cs s1 = some (d, sto'))
    (R1 : Rel K w cl W env s1 σ H) (ha : ArgC K w W env σ cs vs) (k : ∀ W' H' v, W.Ext W' → Rel K w cl W' env sto' σ H' → Res K w (if ro then .n else .s) W' env sto' σ H' d v → Q v H') : spOf K w cl R i ps.length ro (vs ++ []) H Q E := by
  rw [List.append_nil]
  refine ⟨by rw [← paired_length ha]; exact ar _ _ _ hrun, W.lockAll env σ H, s1, cs, d, sto', relS_lockAll R1, argC_R R1 ha, hrun, fun W' H' v le R' r => ?_⟩
  obtain ⟨q1, q2, q3⟩ := call_back R1 le R' r
  exact k _ H' v q1 q2 q3
/-! ### what is to be seen of the text -/
def plainE : Expr → Bool
  | .Starred _ _ => false
  | _ => true
theorem star_cons {a : Expr} {es : List Expr} {env : PySem.Env} (h : plainE a = true) : starEach (a :: es) env = (false, eval a env) :: starEach es env := by
  cases a <;> first | rfl | exact absurd h Bool.false_ne_true
theorem star_any {env : PySem.Env} {pos : Pos} : ∀ {es : List Expr}, es.all plainE = true → (backTo pos (starEach es env)).any (·.1) = false
  | [], _ => rfl
  | a :: es, h => by
    simp only [List.all_cons, Bool.and_eq_true] at h
    rw [star_cons h.1]
    show (false || (backTo pos (starEach es env)).any (·.1)) = false
    rw [star_any h.2, Bool.false_or]
theorem star_all {env : PySem.Env} {pos : Pos} : ∀ {es : List Expr}, es.all plainE = true → (backTo pos (starEach es env)).all (fun x => !x.1) = true
  | [], _ => rfl
  | a :: es, h => by
    simp only [List.all_cons, Bool.and_eq_true] at h
    rw [star_cons h.1]
    show (true && (backTo pos (starEach es env)).all (fun x => !x.1)) = true
    rw [star_all h.2, Bool.true_and]
/-- what attributes are read of -/
def baseE : Expr → Bool
  | .Name _ _ | .Attribute _ _ _ | .Subscript _ _ _ => true
  | .Call (.Name _ _) (_ :: _) _ _ => true
  | .Call (.Attribute _ _ _) _ _ _ => true
  | _ => false
theorem base_ok {a : Expr} {x : Str} {env : PySem.Env} {t : Sem Value} (h : baseE a = true) : attributeBase a x env t = t := by
  cases a with
  | Name _ _ => rfl
  | Attribute _ _ _ => rfl
  | Subscript _ _ _ => rfl
  | Call f args kws q =>
    cases f with
    | Name _ _ =>
      cases args with
      | nil => exact absurd h Bool.false_ne_true
      | cons _ _ => rfl
    | Attribute _ _ _ => rfl
    | _ => exact absurd h Bool.false_ne_true
  | _ => exact absurd h Bool.false_ne_true
theorem few_ok {env : PySem.Env} {pos : Pos} {es : List Expr} (h : es.all plainE = true) (hl : es.length < 30) : ((backTo pos (starEach es env)).all (fun x => !x.1) && (backToKw pos (keywordEach [] env)).all (fun x => x.1.isSome)
    && decide (es.length + ([] : List Keyword).length + (if ([] : List Keyword).isEmpty then 0 else 1) < 30)) = true := by
  rw [star_all h]
  show decide (es.length + 0 + 0 < 30) = true
  exact decide_eq_true (by omega)
theorem meth_form {o : Expr} {m : Str} {apos pos : Pos} {es : List Expr} {env : PySem.Env} (hb : baseE o = true) (h : es.all plainE = true) (hl : es.length < 30) (hline : (apos.endLine == pos.line) = true) :
    eval (.Call (.Attribute o m apos) es [] pos) env = (do
      let ov ← eval o env
      standAt apos.atName
      let (f, first) ← holding [ov] (getMethod ov m (do return (← importBound o env).getD true))
      callWith pos f first (backTo pos (starEach es env)) (backToKw pos (keywordEach [] env))) := by
  rw [arm_eval_Call, base_ok hb]
  have hform : methodCallForm (es.length + ([] : List Keyword).length) (backTo pos (starEach es env)) (backToKw pos (keywordEach [] env)) = true := few_ok h hl
  have hpos : methodCallPos true o env apos pos = pure pos := by unfold methodCallPos; simp [hline]
  unfold methodCall
  rw [hform]
  simp only [hpos, calleeOf, if_true, pure_bind]

/-! ### the calls -/
theorem main_call {i lv : Nat} {ro : Bool} {f : Addr} {ps : List Str} {g : Fa} (F3 : ∀ cs s r, R i cs s = some r → cs.length = ps.length) {σ : St} {H : Hp} {Q : VK} (q : tE X.K X.w cl (if ro then .n else .s) (fCall R i g) σ H Q) :
    tAc X.K X.w cl g σ H fun vs H1 => spOf X.K X.w cl R i ps.length ro (vs ++ []) H1 Q E0 := by
  obtain ⟨W, env, sto, d, sto', R, hf, k⟩ := q
  unfold fCall at hf
  split at hf
  · rename_i cs s1 e1
    refine ⟨W, env, sto, cs, s1, R, e1, fun W1 H1 vs le1 R1 r1 => ?_⟩
    exact run_call (lv := lv) (f := f) F3 hf R1 r1 fun W' H' v le R' r => k W' H' v (le1.trans le) R' r
  · cases hf
theorem pv_call {x : Str} {i lv : Nat} {ro : Bool} {f : Addr} {es : List Expr} {g : Fa} (F : FnH X cl R i ro lv f) (hr : Room lv X.A) (hg : Gl X x) (hm : X.mg x = some (.ref f)) (hk : PySem.W.keepIn X.K (.ref f) = true) (ha : PAc X cl (a :: es) g) (hdb : (x == ("__debug__" : Str)) = false)
    (hp : (a :: es).all plainE = true) : PEv X cl (if ro then .n else .s) (.Call (.Name x p) (a :: es) [] pos) (fCall R i g) := by
  obtain ⟨fd, ps, F1, F2, F3⟩ := F.ex
  simp only [List.all_cons, Bool.and_eq_true] at hp
  exact PE.imp (pe_call F1 hr hg hm hk F2 .nil pass0 ha hdb (star_cons hp.1) (star_any hp.2)) fun σ H Q q => main_call (lv := lv) (f := f) F3 q
theorem pv_call0 {x : Str} {i lv : Nat} {ro : Bool} {f : Addr} (F : FnH X cl R i ro lv f) (hr : Room lv X.A) (hg : Gl X x) (hm : X.mg x = some (.ref f)) (hk : PySem.W.keepIn X.K (.ref f) = true) (hdb : (x == ("__debug__" : Str)) = false) :
    PEv X cl (if ro then .n else .s) (.Call (.Name x p) [] [] pos) (fCall R i fun _ s => some ([], s)) := by
  obtain ⟨fd, ps, F1, F2, F3⟩ := F.ex
  refine PE.imp (pe_call0 F1 hr hg hm hk F2 .nil pass0 hdb) fun σ H Q q => ?_
  obtain ⟨W, env, sto, cs, sto', R, hf, k⟩ := main_call (lv := lv) (f := f) (ps := ps) F3 q
  simp only [Option.some.injEq, Prod.mk.injEq] at hf
  obtain ⟨rfl, rfl⟩ := hf
  exact k W H [] (.refl _) R .nil
/-! ### methods -/
/-- the methods of the classes -/
structure MthH0 (P : Program) (w : World) (K : PySem.W.Frag) (mg : Str → Option Value) (base : Heap) (cl : Nat → Option Addr) (T : Tab) (R : Run) (ro : Nat → Bool) (lv : Nat) : Prop where
  mt : ∀ c m i, T.mt c m = some i → ∃ C f, cl c = some C ∧ Cls K C ∧ Meth K C m f ∧ FnH0 P w K mg base cl R i (ro i) lv f
abbrev MthH (X : Cx) (cl : Nat → Option Addr) (T : Tab) (R : Run) (ro : Nat → Bool) (lv : Nat) : Prop := MthH0 X.prog X.w X.K X.mg X.base cl T R ro lv
theorem PE.ex {ι : Type} {e : Expr} {t : ι → TE} (h : ∀ i, PE X e (t i)) : PE X e fun σ H Q => ∃ i, t i σ H Q := ⟨fun pins s σ H Q I ⟨i, q⟩ => (h i).run pins s σ H Q I q⟩
theorem PE.never {e : Expr} : PE X e fun _ _ _ => False := ⟨fun _ _ _ _ _ _ h => h.elim⟩
theorem main_meth {T : Tab} {m : Str} {c i lv : Nat} {ro : Bool} {C f : Addr} {ps : List Str} {fo : Fe} {g : Fa} {ta : TE} {t : TA} (F3 : ∀ cs s r, R i cs s = some r → cs.length = ps.length) (hcl : cl c = some C) (hmt : T.mt c m = some i)
    {W W1 : Wd} {env : Env} {s1 : Sto} {n : Nat} {fs : List (Str × Cell)} {cs : List Cell} {s2 sto' : Sto} {d : D} {σ : St} {H1 : Hp} {v : V} {md : Md} {Q : VK} (le1 : W.Ext W1) (R1 : Rel X.K X.w cl W1 env s1 σ H1) (r1 : Rep X.K X.w W1 (.obj n) v) (e2 : s1[n]? = some (.ins c fs)) (e3 : fs.lookup m = none)
    (e4 : g env s1 = some (cs, s2)) (e5 : R i (.val (.obj n) :: cs) s2 = some (d, sto')) (k : ∀ W' H' v, W.Ext W' → Rel X.K X.w cl W' env sto' σ H' → Res X.K X.w (if ro then .n else .s) W' env sto' σ H' d v → Q v H')
    (ha : ∀ Q', tAc X.K X.w cl g σ H1 Q' → t σ H1 Q') :
    ∃ a dx vs, v = .ref a ∧ H1 a = some (.ins C dx vs) ∧ vs.lookup m = none ∧ t σ H1 fun us H2 => spOf X.K X.w cl R i ps.length ro (v :: (us ++ [])) H2 Q E0 := by
  obtain ⟨p, rfl, hp, C', dx, vs, q1, q2, q3⟩ := obj_at R1.s r1 e2
  rw [hcl] at q2
  cases q2
  refine ⟨p, dx, vs, rfl, q1, ?_, ?_⟩
  · rcases paired_lookup (G := fun c v => c.nl ∧ CellR X.K X.w W1 H1 c v) (paired_imp (fun _ _ z => z) q3) m with ⟨_, z⟩ | ⟨c1, v1, z1, _⟩
    · exact z
    · rw [e3] at z1; cases z1
  · refine ha _ ⟨W1, env, s1, cs, s2, R1, e4, fun W2 H2 us le2 R2 r2 => ?_⟩
    have r3 : ArgC X.K X.w W2 env σ (.val (.obj n) :: cs) (.ref p :: us) := .cons (.inl ⟨_, rfl, rep_mono le2.le _ _ r1⟩) r2
    have z := run_call (lv := lv) (f := f) (ro := ro) (E := E0) F3 e5 R2 r3 fun W' H' v le R' r => k W' H' v ((le1.trans le2).trans le) R' r
    exact z
theorem fMeth_some {T : Tab} {m : Str} {fo : Fe} {g : Fa} {env : Env} {s s' : Sto} {d : D} (h : fMeth T R m fo g env s = some (d, s')) : ∃ n s1 c fs i cs s2, fo env s = some (.obj n, s1) ∧ s1[n]? = some (.ins c fs) ∧ fs.lookup m = none ∧ T.mt c m = some i ∧ g env s1 = some (cs, s2) ∧ R i (.val (.obj n) :: cs) s2 = some (d, s') := by
  unfold fMeth at h
  split at h
  · rename_i n s1 e1
    split at h
    · rename_i c fs e2
      split at h
      · rename_i i e3 e4
        split at h
        · rename_i cs s2 e5
          exact ⟨n, s1, c, fs, i, cs, s2, e1, e2, e3, e4, e5, h⟩
        · cases h
      · cases h
    · cases h
  · cases h
theorem pv_meth {T : Tab} {ro : Nat → Bool} {lv : Nat} {m : Str} {apos : Pos} {es : List Expr} {fo : Fe} {g : Fa} {rr : Bool} (M : MthH X cl T R ro lv) (hr : Room lv X.A) (ho : PEv X cl .s b fo) (ha : PAc X cl es g) (hz : es = [] → g = fun _ s => some ([], s)) (hro : ∀ c i, T.mt c m = some i → ro i = rr)
    (hb : baseE b = true) (hp : es.all plainE = true) (hl : es.length < 30) (hline : (apos.endLine == pos.line) = true) : PEv X cl (if rr then .n else .s) (.Call (.Attribute b m apos) es [] pos) (fMeth T R m fo g) := by
  have ht := meth_form (m := m) (env := X.env) hb hp hl hline
  -- one class after the other
  have one : ∀ c : Nat, ∃ t : TE, PE X (.Call (.Attribute b m apos) es [] pos) t ∧ ∀ i, T.mt c m = some i → ∀ W env sto n s1 fs cs s2 d sto' σ H Q, Rel X.K X.w cl W env sto σ H → fo env sto = some (.obj n, s1) → s1[n]? = some (.ins c fs) → fs.lookup m = none → g env s1 = some (cs, s2) →
      R i (.val (.obj n) :: cs) s2 = some (d, sto') → (∀ W' H' v, W.Ext W' → Rel X.K X.w cl W' env sto' σ H' → Res X.K X.w (if rr then .n else .s) W' env sto' σ H' d v → Q v H') → t σ H Q := fun c => by
    cases hc : T.mt c m with
    | none => exact ⟨_, PE.never, fun i z => by cases z⟩
    | some i =>
      obtain ⟨C, f, h1, h2, h3, F⟩ := M.mt c m i hc
      have hri := hro c i hc
      rw [hri] at F
      obtain ⟨fd, ps, F1, F2, F3⟩ := F.ex
      cases es with
      | nil =>
        refine ⟨_, pe_meth0 ho h2 h3 F1 hr F2 .nil pass0 ht, fun j z => ?_⟩
        cases z
        intro W env sto n s1 fs cs s2 d sto' σ H Q Rr e1 e2 e3 e4 e5 k
        refine ⟨W, env, sto, _, s1, Rr, e1, fun W1 H1 v le1 R1 r1 => ?_⟩
        refine main_meth (lv := lv) (f := f) (fo := fo) (ta := tC .non) (T := T) (md := .s) F3 h1 hc le1 R1 r1 e2 e3 e4 e5 k fun Q' q => ?_
        obtain ⟨W2, env2, sto2, cs2, sto3, R2, hf, k2⟩ := q
        rw [hz rfl] at hf
        simp only [Option.some.injEq, Prod.mk.injEq] at hf
        obtain ⟨rfl, rfl⟩ := hf
        exact k2 W2 H1 [] (.refl _) R2 .nil
      | cons e0 r0 =>
        simp only [List.all_cons, Bool.and_eq_true] at hp
        refine ⟨_, pe_meth ho h2 h3 F1 hr F2 .nil pass0 ha (star_cons hp.1) (star_any hp.2) ht, fun j z => ?_⟩
        cases z
        intro W env sto n s1 fs cs s2 d sto' σ H Q Rr e1 e2 e3 e4 e5 k
        refine ⟨W, env, sto, _, s1, Rr, e1, fun W1 H1 v le1 R1 r1 => ?_⟩
        exact main_meth (lv := lv) (f := f) (fo := fo) (ta := tC .non) (T := T) (md := .s) F3 h1 hc le1 R1 r1 e2 e3 e4 e5 k fun Q' q => q
  refine PE.imp (PE.ex fun c => (one c).choose_spec.1) fun σ H Q => ?_
  rintro ⟨W, env, sto, d, sto', Rr, hf, k⟩
  obtain ⟨n, s1, c, fs, i, cs, s2, e1, e2, e3, e4, e5, e6⟩ := fMeth_some hf
  exact ⟨c, (one c).choose_spec.2 i e4 W env sto n s1 fs cs s2 d sto' σ H Q Rr e1 e2 e3 e5 e6 k⟩
end
end PI
/-! making objects; built-in functions; fields' own lists -/
namespace PI
open PySem L2
section
variable {X : Cx} {cl : Nat → Option Addr} {e a b c : Expr} {fa fb fc : Fe} {m : Md} {pos p : Pos} {R : Run}
/-! ### C(..) -/
theorem relS_newObj {K : PySem.W.Frag} {w : World} {W : Wd} {sto : Sto} {H : Hp} {c : Nat} {C x dx : Addr} (R : RelS K w cl W sto H) (hc : cl c = some C) (hx : H x = none) (hdx : H dx = none) (ne : dx ≠ x) :
    RelS K w cl { W with E := W.E ++ [x] } (sto ++ [.ins c []]) (upd (upd H dx (.own x)) x (.ins C dx [])) := by
  have sm : Same H (upd (upd H dx (.own x)) x (.ins C dx [])) := (same_new hdx).trans (same_new (by rw [upd_ne (Ne.symm ne)]; exact hx))
  have R1 := relS_same R sm
  have le : W.Le { W with E := W.E ++ [x] } := ⟨Same.refl _, fun n a h => by
    show (W.E ++ [x])[n]? = some a
    rw [List.getElem?_append_left (List.getElem?_eq_some_iff.mp h).1]
    exact h⟩
  have split : ∀ (n : Nat) (a : Addr), (W.E ++ [x])[n]? = some a → (n < W.E.length ∧ W.E[n]? = some a) ∨ (n = W.E.length ∧ a = x) := fun n a h => by
    by_cases hn : n < W.E.length
    · rw [List.getElem?_append_left hn] at h
      exact .inl ⟨hn, h⟩
    · rw [List.getElem?_append_right (by omega)] at h
      have : n - W.E.length = 0 := by
        rcases Nat.lt_or_ge (n - W.E.length) 1 with h1 | h1
        · omega
        · rw [List.getElem?_eq_none (by simpa using h1)] at h; cases h
      rw [this] at h
      exact .inr ⟨by omega, (Option.some.inj h).symm⟩
  have stoL : ∀ n, n < W.E.length → (sto ++ [SObj.ins c []])[n]? = sto[n]? := fun n hn => List.getElem?_append_left (by rw [← R.len]; exact hn)
  have stoN : (sto ++ [SObj.ins c []])[W.E.length]? = some (.ins c []) := by rw [R.len]; simp
  have fo : ∀ n f q, FOwn { W with E := W.E ++ [x] } (sto ++ [.ins c []]) (upd (upd H dx (.own x)) x (.ins C dx [])) n f q → FOwn W sto (upd (upd H dx (.own x)) x (.ins C dx [])) n f q := fun n f q ⟨a, ha, h⟩ => by
    rcases split n a ha with ⟨hn, ha'⟩ | ⟨rfl, rfl⟩
    · rw [stoL n hn] at h
      exact ⟨a, ha', h⟩
    · rw [stoN] at h
      rcases h with ⟨c', fs, y, d, C', dx', vs, z, h1, h2, _⟩ | ⟨cells, seed, h1, _⟩
      · cases h1
        simp at h2
      · cases h1
  have xF : W.F x = none := by
    cases q : W.F x with
    | none => rfl
    | some o => exact absurd hx (R.subF x o q).ne
  have xP : W.P x = none := by
    cases q : W.P x with
    | none => rfl
    | some o => rw [R.subP x o q] at hx; cases hx
  have xE : x ∉ W.E := fun z => ob_some R z hx
  refine ⟨R1.subF, R1.subP, R1.subL, R1.disj, R1.disL, by simp [R.len], ?_, fun a h => ?_, fun n s a h1 h2 => ?_, fun n f n' f' q h1 h2 => R1.sep n f n' f' q (fo _ _ _ h1) (fo _ _ _ h2), fun n f q h z => ?_⟩
  · show (W.E ++ [x]).Nodup
    exact List.nodup_append.mpr ⟨R.nd, by simp, fun y hy z hz e => by
      have : z = x := by simpa using hz
      exact xE (by rw [← this, ← e]; exact hy)⟩
  · have h : a ∈ W.E ++ [x] := h
    rcases List.mem_append.mp h with h | h
    · exact R.nE a h
    · have : a = x := by simpa using h
      subst this
      exact ⟨xF, xP⟩
  · rcases split n a h2 with ⟨hn, h2'⟩ | ⟨rfl, rfl⟩
    · rw [stoL n hn] at h1
      have q := R1.ob n s a h1 h2'
      cases s with
      | ins c' fs =>
        obtain ⟨C', dx', vs, h3, h4, h5⟩ := q
        refine ⟨C', dx', vs, h3, h4, paired_imp (fun y z k => ⟨k.1, k.2.1, ?_⟩) h5⟩
        obtain ⟨y, cy⟩ := y
        obtain ⟨z, vz⟩ := z
        have k2 := k.2.2
        cases cy with
        | val d => exact rep_mono le _ _ k2
        | own d => obtain ⟨q, o, g1, g2, g3, g4⟩ := k2; exact ⟨q, o, g1, g2, cont_mono le g3, g4⟩
        | lck d => exact k.2.1.elim
      | drw cells seed => exact q
    · rw [stoN] at h1
      cases h1
      exact ⟨C, dx, [], upd_same, hc, .nil⟩
  · have z : q ∈ W.E ++ [x] := z
    rcases List.mem_append.mp z with z | z
    · exact R1.sepE n f q (fo _ _ _ h) z
    · have : q = x := by simpa using z
      subst this
      have h1 := fo _ _ _ h
      have h2 := fown_back R sm h1
      exact (fown_some R h2).1 hx
structure MkH0 (P : Program) (w : World) (K : PySem.W.Frag) (mg : Str → Option Value) (base : Heap) (cl : Nat → Option Addr) (T : Tab) (R : Run) (lv : Nat) (c : Nat) (C : Addr) : Prop where
  ex : ∃ i f, T.ini c = some i ∧ cl c = some C ∧ Mk K C f ∧ FnH0 P w K mg base cl R i false lv f
abbrev MkH (X : Cx) (cl : Nat → Option Addr) (T : Tab) (R : Run) (lv : Nat) (c : Nat) (C : Addr) : Prop := MkH0 X.prog X.w X.K X.mg X.base cl T R lv c C
theorem fMk_some {T : Tab} {c : Nat} {g : Fa} {env : Env} {s s' : Sto} {d : D} (h : fMk T R c g env s = some (d, s')) : ∃ cs s1 i, g env s = some (cs, s1) ∧ T.ini c = some i ∧ R i (.val (.obj s1.length) :: cs) (s1 ++ [.ins c []]) = some (.non, s') ∧ d = .obj s1.length := by
  unfold fMk at h
  split at h
  · rename_i cs s1 e1
    split at h
    · rename_i i e2
      split at h
      · rename_i s2 e3
        simp only [Option.some.injEq, Prod.mk.injEq] at h
        obtain ⟨rfl, rfl⟩ := h
        exact ⟨cs, s1, i, e1, e2, e3, rfl⟩
      · cases h
    · cases h
  · cases h
theorem main_make {T : Tab} {c i lv : Nat} {C : Addr} {ps : List Str} {W1 : Wd} {env : Env} {cs : List Cell} {s1 sto' : Sto} {σ : St} {H1 : Hp} {vs : List V} {Q : VK} (hc : cl c = some C) (F3 : ∀ cs s r, R i cs s = some r → cs.length = ps.length)
    (R1 : Rel X.K X.w cl W1 env s1 σ H1) (r1 : ArgC X.K X.w W1 env σ cs vs) (e3 : R i (.val (.obj s1.length) :: cs) (s1 ++ [.ins c []]) = some (.non, sto')) (k : ∀ W' H' v, W1.Ext W' → Rel X.K X.w cl W' env sto' σ H' → Rep X.K X.w W' (.obj s1.length) v → Q v H') :
    ∀ x dx, H1 x = none → H1 dx = none → dx ≠ x → spOf X.K X.w cl R i ps.length false (.ref x :: (vs ++ [])) (upd (upd H1 dx (.own x)) x (.ins C dx [])) (fun v H2 => v = .non ∧ Q (.ref x) H2) E0 := fun x dx hx hdx ne => by
  have sm : Same H1 (upd (upd H1 dx (.own x)) x (.ins C dx [])) := (same_new hdx).trans (same_new (by rw [upd_ne (Ne.symm ne)]; exact hx))
  have S2 := relS_newObj (c := c) R1.s hc hx hdx ne
  have le : W1.Le { W1 with E := W1.E ++ [x] } := ⟨Same.refl _, fun n a h => by
    show (W1.E ++ [x])[n]? = some a
    rw [List.getElem?_append_left (List.getElem?_eq_some_iff.mp h).1]
    exact h⟩
  have hn : (W1.E ++ [x])[s1.length]? = some x := by rw [← R1.s.len]; simp
  have fo : ∀ n f q, FOwn { W1 with E := W1.E ++ [x] } (s1 ++ [.ins c []]) (upd (upd H1 dx (.own x)) x (.ins C dx [])) n f q → FOwn W1 s1 H1 n f q := fun n f q ⟨a, ha, h⟩ => by
    have hn : n < W1.E.length ∨ n = W1.E.length := by
      have ha : (W1.E ++ [x])[n]? = some a := ha
      have := (List.getElem?_eq_some_iff.mp ha).1
      simp at this
      omega
    rcases hn with hn | rfl
    · have ha : (W1.E ++ [x])[n]? = some a := ha
      rw [List.getElem?_append_left hn] at ha
      rw [List.getElem?_append_left (by rw [← R1.s.len]; exact hn)] at h
      exact fown_back R1.s sm ⟨a, ha, h⟩
    · rw [R1.s.len] at h
      simp only [List.getElem?_append_right (Nat.le_refl _), Nat.sub_self, List.getElem?_cons_zero] at h
      rcases h with ⟨c', fs, y, d, C', dx', vs, z, h1, h2, _⟩ | ⟨cells, seed, h1, _⟩
      · cases h1
        simp at h2
      · cases h1
  have R2 : Rel X.K X.w cl { W1 with E := W1.E ++ [x] } env (s1 ++ [.ins c []]) σ (upd (upd H1 dx (.own x)) x (.ins C dx [])) := by
    refine ⟨S2, R1.e.len, fun j c0 h => ?_, R1.e.sep, fun j d q n f h1 h2 h3 => R1.e.sepF j d q n f h1 h2 (fo n f q h3), fun j d q h1 h2 z => ?_⟩
    · obtain ⟨v, q1, q2⟩ := R1.e.cell j c0 h
      refine ⟨v, q1, ?_⟩
      cases c0 with
      | val d => exact rep_mono le _ _ q2
      | own d => obtain ⟨q, o, g1, g2, g3, g4⟩ := q2; exact ⟨q, o, g1, sm _ _ g2, cont_mono le g3, g4⟩
      | lck d => obtain ⟨q, o, u, g1, g2, g3, g4⟩ := q2; exact ⟨q, o, u, g1, g2, g3, cont_mono le g4⟩
    · have z : q ∈ W1.E ++ [x] := z
      rcases List.mem_append.mp z with z | z
      · exact R1.e.sepE j d q h1 h2 z
      · have : q = x := by simpa using z
        subst this
        obtain ⟨v, q1, p', o, q2, q3, _⟩ := R1.e.cell j _ h1
        rw [h2] at q1
        cases q1
        cases q2
        rw [hx] at q3
        cases q3
  have r2 : ArgC X.K X.w { W1 with E := W1.E ++ [x] } env σ (.val (.obj s1.length) :: cs) (.ref x :: vs) := .cons (.inl ⟨_, rfl, by unfold Rep; exact ⟨x, rfl, hn⟩⟩) (argC_mono le r1)
  exact run_call (lv := lv) (f := x) (ro := false) (E := E0) F3 e3 R2 r2 fun W' H' v le' R' r => by
    unfold Res Rep at r
    exact ⟨r, k W' H' _ ⟨le.trans le'.le, le'.P, le'.L⟩ R' (by unfold Rep; exact ⟨x, rfl, le'.le.2 _ _ hn⟩)⟩
theorem pv_make {T : Tab} {x : Str} {c lv : Nat} {C : Addr} {es : List Expr} {g : Fa} (M : MkH X cl T R lv c C) (hr : Room (lv + 1) X.A) (hg : Gl X x) (hm : X.mg x = some (.ref C)) (ha : PAc X cl es g) (hz : es = [] → g = fun _ s => some ([], s)) (hdb : (x == ("__debug__" : Str)) = false)
    (hp : es.all plainE = true) : PEv X cl .s (.Call (.Name x p) es [] pos) (fMk T R c g) := by
  obtain ⟨i, f, h1, h2, h3, F⟩ := M.ex
  obtain ⟨fd, ps, F1, F2, F3⟩ := F.ex
  cases es with
  | nil =>
    refine PE.imp (pe_make0 h3 F1 hr hg hm F2 .nil pass0 hdb) fun σ H Q => ?_
    rintro ⟨W, env, sto, d, sto', Rr, hf, k⟩
    obtain ⟨cs, s1, i', e1, e2, e3, rfl⟩ := fMk_some hf
    rw [h1] at e2
    cases e2
    rw [hz rfl] at e1
    simp only [Option.some.injEq, Prod.mk.injEq] at e1
    obtain ⟨rfl, rfl⟩ := e1
    exact main_make (T := T) (lv := lv) h2 F3 Rr .nil e3 k
  | cons e0 r0 =>
    simp only [List.all_cons, Bool.and_eq_true] at hp
    refine PE.imp (pe_make h3 F1 hr hg hm F2 .nil pass0 ha hdb (star_cons hp.1) (star_any hp.2)) fun σ H Q => ?_
    rintro ⟨W, env, sto, d, sto', Rr, hf, k⟩
    obtain ⟨cs, s1, i', e1, e2, e3, rfl⟩ := fMk_some hf
    rw [h1] at e2
    cases e2
    refine ⟨W, env, sto, cs, s1, Rr, e1, fun W1 H1 vs le1 R1 r1 => ?_⟩
    exact main_make (T := T) (lv := lv) h2 F3 R1 r1 e3 fun W' H' v le R' r => k W' H' v (le1.trans le) R' r
/-! ### built-in functions of one and of two things -/
def PurC1 (K : PySem.W.Frag) (w : World) (r : List V → Hp → VK → Prop) (g : D → Option D) : Prop := Pur1 K w (fun x H Q => r [x] H Q) g
def PurC2 (K : PySem.W.Frag) (w : World) (r : List V → Hp → VK → Prop) (g : D → D → Option D) : Prop := Pur2 K w (fun x y H Q => r [x, y] H Q) g
theorem f1_some {k : D → Option D} {env : Env} {s s' : Sto} {d : D} (h : f1 fa k env s = some (d, s')) : ∃ a, fa env s = some (a, s') ∧ k a = some d := by
  unfold f1 at h
  split at h
  · rename_i a s1 e1
    cases e3 : k a with
    | none => rw [e3] at h; cases h
    | some c =>
      rw [e3] at h
      simp only [Option.map_some, Option.some.injEq, Prod.mk.injEq] at h
      obtain ⟨rfl, rfl⟩ := h
      exact ⟨a, e1, e3⟩
  · cases h
theorem pv_fn1 {r : List V → Hp → VK → Prop} {k : D → Option D} {E : Expr} (hr : PurC1 X.K X.w r k) (h : ∀ ta : TA, PA X [a] ta → PE X E (tCB r ta)) (hs : plainE a = true) (ha : PEv X cl .t a fa) : PEv X cl .n E (f1 fa k) := by
  refine PE.imp (h _ (pa_cons ha pa_nil (star_cons hs))) fun σ H Q => ?_
  rintro ⟨W, env, sto, d, sto', Rr, hf, q⟩
  obtain ⟨x, e1, e2⟩ := f1_some hf
  refine ⟨W, env, sto, x, sto', Rr, e1, fun W1 H1 v le1 R1 r1 => ?_⟩
  exact hr W1 H1 x d v Q R1.s.subF r1 e2 fun H2 z nr => q W1 H2 z le1 (nr.res R1).1 (nr.res R1).2
theorem pv_fn2 {r : List V → Hp → VK → Prop} {k : D → D → Option D} {E : Expr} (hr : PurC2 X.K X.w r k) (h : ∀ ta : TA, PA X [a, b] ta → PE X E (tCB r ta)) (hs : plainE a = true) (hs2 : plainE b = true) (q : Two X cl a b fa fb) : PEv X cl .n E (f2 fa fb k) := by
  obtain ⟨ta, tb, ha, hb, q⟩ := q
  refine PE.imp (h _ (pa_cons ha (pa_cons hb pa_nil (star_cons hs2)) (star_cons hs))) fun σ H Q => ?_
  rintro ⟨W, env, sto, d, sto', Rr, hf, k⟩
  obtain ⟨x, s1, y, e1, e2, e3⟩ := f2_some hf
  refine q σ H _ ⟨W, env, sto, x, s1, y, sto', Rr, e1, e2, fun W' H' v u le R' r1 r2 => ?_⟩
  exact hr W' H' x y d v u Q R'.s.subF r1 r2 e3 fun H2 z nr => k W' H2 z le (nr.res R').1 (nr.res R').2
end
section
variable {X : Cx} {K : PySem.W.Frag} {w : World}
def rLenU (K : PySem.W.Frag) : List V → Hp → VK → Prop := fun xs H Q => (∃ p ys, xs = [.ref p] ∧ (SqL K H p ys ∨ SqT K H p ys) ∧ Q (.int ys.length) H) ∨ ∃ z, xs = [.str z] ∧ z.length ≤ sizeLine ∧ Q (.int z.length) H
theorem cr_len : CallR X (.builtin "len") (rLenU X.K) := call_len_seq.or call_len_str
theorem pc_len : PurC1 K w (rLenU K) (dFn1 .len) := by
  intro W H a d x Q sub ra e k
  cases a with
  | lst xs =>
    cases e
    obtain ⟨p, vs, rfl, h1, h2⟩ := ra.lst sub
    exact .inl ⟨p, vs, rfl, .inl (SqL.of h1), by rw [reps_length h2]; exact k _ _ (new_int _)⟩
  | tup xs =>
    cases e
    obtain ⟨p, vs, rfl, h1, h2⟩ := ra.tup sub
    exact .inl ⟨p, vs, rfl, .inr h1, by rw [reps_length h2]; exact k _ _ (new_int _)⟩
  | str z =>
    simp only [dFn1, dLen] at e
    split at e
    · rename_i hl
      cases e
      have e1 := ra.str
      subst e1
      exact .inr ⟨z, rfl, le_line hl, k _ _ (new_int _)⟩
    · cases e
  | dct kvs => cases e
  | _ => cases e
theorem pc_list : PurC1 K w (fun xs H Q => ∃ p ys, xs = [.ref p] ∧ (SqL K H p ys ∨ SqT K H p ys) ∧ ∀ l, H l = none → Q (.ref l) (upd H l (.lst ys))) (dFn1 .list) := by
  intro W H a d x Q sub ra e k
  cases a with
  | lst xs =>
    cases e
    obtain ⟨p, vs, rfl, h1, h2⟩ := ra.lst sub
    exact ⟨p, vs, rfl, .inl (SqL.of h1), fun l hl => k _ _ (new_lst hl h2)⟩
  | tup xs =>
    cases e
    obtain ⟨p, vs, rfl, h1, h2⟩ := ra.tup sub
    exact ⟨p, vs, rfl, .inr h1, fun l hl => k _ _ (new_lst hl h2)⟩
  | _ => cases e
theorem pc_tuple : PurC1 K w (fun xs H Q => ∃ p ys, xs = [.ref p] ∧ ((SqL K H p ys ∧ ∀ l, H l = none → Q (.ref l) (upd H l (.tup ys))) ∨ (SqT K H p ys ∧ Q (.ref p) H))) (dFn1 .tuple) := by
  intro W H a d x Q sub ra e k
  cases a with
  | lst xs =>
    cases e
    obtain ⟨p, vs, rfl, h1, h2⟩ := ra.lst sub
    exact ⟨p, vs, rfl, .inl ⟨SqL.of h1, fun l hl => k _ _ (new_tup hl h2)⟩⟩
  | tup xs =>
    cases e
    obtain ⟨p, vs, e1, h1, h2⟩ := ra.tup sub
    subst e1
    exact ⟨p, vs, rfl, .inr ⟨h1, k _ _ (new_flat ra.tupR)⟩⟩
  | _ => cases e
theorem pc_int : PurC1 K w (fun xs H Q => (∃ i, xs = [.int i] ∧ Q (.int i) H) ∨ ∃ k, xs = [.bl k] ∧ Q (.int (if k then 1 else 0)) H) (dFn1 .int) := by
  intro W H a d x Q sub ra e k
  cases a with
  | int i =>
    cases e
    have e1 := ra.int
    subst e1
    exact .inl ⟨i, rfl, k _ _ (new_int _)⟩
  | bl i =>
    cases e
    have e1 := ra.bl
    subst e1
    exact .inr ⟨i, rfl, k _ _ (new_int _)⟩
  | _ => cases e
theorem pc_str : PurC1 K w (fun xs H Q => ∃ i, xs = [.int i] ∧ i.natAbs.log2 < 1920 ∧ Q (.str (toString i)) H) (dFn1 .str) := by
  intro W H a d x Q sub ra e k
  cases a with
  | int i =>
    simp only [dFn1] at e
    split at e
    · rename_i hl
      cases e
      have e1 := ra.int
      subst e1
      exact ⟨i, rfl, hl, k _ _ (new_str _)⟩
    · cases e
  | _ => cases e
theorem pc_abs : PurC1 K w (fun xs H Q => ∃ i, xs = [.int i] ∧ Q (.int (if i < 0 then -i else i)) H) (dFn1 .abs) := by
  intro W H a d x Q sub ra e k
  cases a with
  | int i =>
    cases e
    have e1 := ra.int
    subst e1
    exact ⟨i, rfl, k _ _ (new_int _)⟩
  | _ => cases e
theorem pc_ord : PurC1 K w (fun xs H Q => ∃ x, xs = [.str x] ∧ x.length = 1 ∧ Q (.int (x.cps.getD 0 0 : Nat)) H) (dFn1 .ord) := by
  intro W H a d x Q sub ra e k
  cases a with
  | str i =>
    simp only [dFn1] at e
    split at e
    · rename_i hl
      cases e
      have e1 := ra.str
      subst e1
      exact ⟨i, rfl, hl, k _ _ (new_int _)⟩
    · cases e
  | _ => cases e
theorem pc_sum : PurC1 K w (rSum K) (dFn1 .sum) := by
  intro W H a d x Q sub ra e k
  cases a with
  | lst xs =>
    simp only [dFn1, Option.map_eq_some_iff] at e
    obtain ⟨ns, e, rfl⟩ := e
    obtain ⟨p, vs, rfl, h1, h2⟩ := ra.lst sub
    rw [reps_ints h2 e] at h1
    exact ⟨p, ns, rfl, SqL.of h1, k _ _ (new_int _)⟩
  | _ => cases e
theorem pc_min2 : PurC2 K w (fun xs H Q => ∃ i j, xs = [.int i, .int j] ∧ Q (.int (if j < i then j else i)) H) (dFn2 .min2) := by
  intro W H a b d x y Q sub ra rb e k
  cases a with
  | int i =>
    cases b with
    | int j =>
      cases e
      have e1 := ra.int
      have e2 := rb.int
      subst e1; subst e2
      exact ⟨i, j, rfl, k _ _ (new_int _)⟩
    | _ => cases e
  | _ => cases e
theorem pc_max2 : PurC2 K w (fun xs H Q => ∃ i j, xs = [.int i, .int j] ∧ Q (.int (if j > i then j else i)) H) (dFn2 .max2) := by
  intro W H a b d x y Q sub ra rb e k
  cases a with
  | int i =>
    cases b with
    | int j =>
      cases e
      have e1 := ra.int
      have e2 := rb.int
      subst e1; subst e2
      exact ⟨i, j, rfl, k _ _ (new_int _)⟩
    | _ => cases e
  | _ => cases e
end
end PI
/-! more of built-in functions; slices; chains; fields' own lists -/
namespace PI
open PySem L2
section
variable {X : Cx} {K : PySem.W.Frag} {w : World}
theorem pc_any : PurC1 K w (rAny K) (dFn1 .any) := by
  intro W H a d x Q sub ra e k
  cases a with
  | lst xs =>
    simp only [dFn1, Option.map_eq_some_iff] at e
    obtain ⟨ns, e, rfl⟩ := e
    obtain ⟨p, vs, rfl, h1, h2⟩ := ra.lst sub
    rw [reps_bools h2 e] at h1
    exact ⟨p, ns, rfl, SqL.of h1, k _ _ (new_bl _)⟩
  | _ => cases e
theorem pc_all : PurC1 K w (rAll K) (dFn1 .all) := by
  intro W H a d x Q sub ra e k
  cases a with
  | lst xs =>
    simp only [dFn1, Option.map_eq_some_iff] at e
    obtain ⟨ns, e, rfl⟩ := e
    obtain ⟨p, vs, rfl, h1, h2⟩ := ra.lst sub
    rw [reps_bools h2 e] at h1
    exact ⟨p, ns, rfl, SqL.of h1, k _ _ (new_bl _)⟩
  | _ => cases e
/-! ### isinstance -/
def TyN.nm : TyN → String
  | .bool => "bool" | .int => "int" | .str => "str" | .list => "list" | .tuple => "tuple"
def D.tyn : D → Option String
  | .non => some "NoneType"
  | .bl _ => some "bool"
  | .int _ => some "int"
  | .str _ => some "str"
  | .lst _ => some "list"
  | .tup _ => some "tuple"
  | _ => none
theorem isi_tyn {t : TyN} {d : D} {b : Bool} (h : dIsi t d = some b) : ∃ n, d.tyn = some n ∧ kitB n t.nm = some b := by
  cases t <;> cases d <;> cases h <;> exact ⟨_, rfl, by decide +kernel⟩
theorem tyx_of {W : Wd} {H : Hp} {d : D} {v : V} {n : String} (sub : SubF W H) (r : Top K w W H d v) (e : d.tyn = some n) : TyX K H v (.type n) := by
  cases d with
  | non => cases e; cases r.non; exact .base .non
  | bl b => cases e; cases r.bl; exact .base (.bl _)
  | int b => cases e; cases r.int; exact .base (.int _)
  | str b => cases e; cases r.str; exact .base (.str _)
  | lst xs =>
    cases e
    obtain ⟨p, vs, rfl, h1, h2⟩ := r.lst sub
    exact .base (.lst h1)
  | tup xs =>
    cases e
    obtain ⟨p, vs, rfl, h1, h2⟩ := r.tup sub
    rcases h1 with (h1 | ⟨o, h1⟩) | ⟨o, its, k, h1, h3, _⟩
    · exact .base (.tup h1)
    · exact .fTuple h1
    · exact .kTuple h1 h3
  | _ => cases e
theorem pv_isi {cl : Nat → Option Addr} {a c : Expr} {fa : Fe} {E : Expr} {t : TyN} (h : ∀ ta : TA, PA X [a, c] ta → PE X E (tCB (rIsi X.K) ta)) (hc : PE X c (tC (.ty t.nm))) (hs : plainE a = true) (hs2 : plainE c = true) (ha : PEv X cl .t a fa) :
    PEv X cl .n E (f1 fa fun d => (dIsi t d).map .bl) := by
  refine PE.imp (h _ (pa_cons ha (pa_cons hc pa_nil (star_cons hs2)) (star_cons hs))) fun σ H Q => ?_
  rintro ⟨W, env, sto, d, sto', Rr, hf, q⟩
  obtain ⟨x, e1, e2⟩ := f1_some hf
  simp only [Option.map_eq_some_iff] at e2
  obtain ⟨b, e2, rfl⟩ := e2
  obtain ⟨n, n1, n2⟩ := isi_tyn e2
  refine ⟨W, env, sto, x, sto', Rr, e1, fun W1 H1 v le1 R1 r1 => ?_⟩
  exact ⟨v, _, .type n, .type t.nm, b, rfl, .ty _, tyx_of R1.s.subF r1 n1, kit_ty n2, q W1 H1 _ le1 R1 (.inl ⟨by simp [Rep], rfl⟩)⟩
end
section
variable {X : Cx} {cl : Nat → Option Addr} {e a b c : Expr} {fa fb fc : Fe} {m : Md} {pos p : Pos} {R : Run}
/-! ### slices -/
theorem pv_slc {lo hi : Option Expr} {g h : Fo} {p2 : Pos} (ha : PEv X cl .b a fa) (hl : POv X cl lo g) (hh : POv X cl hi h) : PEv X cl .n (.Subscript a (.Slice lo hi none p2) pos) (fCut fa g h) := PE.imp (pe_slice sl_U ha hl hh) fun σ H Q => by
  rintro ⟨W, env, sto, d, sto', Rr, hf, k⟩
  obtain ⟨x, s1, l, s2, u, e1, e2, e3, e4⟩ := fCut_some hf
  refine ⟨W, env, sto, x, s1, Rr, e1, fun W1 H1 v le1 R1 r1 => ?_⟩
  refine ⟨W1, env, s1, l, s2, R1, e2, fun W2 H2 le2 R2 => ?_⟩
  refine ⟨W2, env, s2, u, sto', R2, e3, fun W3 H3 le3 R3 => ?_⟩
  exact pur_cut R3.s.subF (res_b R3 (le2.trans le3).le r1) e4 fun H4 z nr => k W3 H4 z ((le1.trans le2).trans le3) (nr.res R3).1 (nr.res R3).2
/-! ### a op b op c -/
theorem fChn_some {pp qq : D → D → Option Bool} {env : Env} {s s' : Sto} {d : D} (h : fChn pp qq fa fb fc env s = some (d, s')) : ∃ x s1 y s2, fa env s = some (x, s1) ∧ fb env s1 = some (y, s2) ∧ ((pp x y = some false ∧ d = .bl false ∧ s' = s2) ∨ (pp x y = some true ∧ ∃ z b, fc env s2 = some (z, s') ∧ qq y z = some b ∧ d = .bl b)) := by
  unfold fChn at h
  split at h
  · rename_i x s1 e1
    split at h
    · rename_i y s2 e2
      split at h
      · rename_i e3
        split at h
        · rename_i z s3 e4
          cases e5 : qq y z with
          | none => rw [e5] at h; cases h
          | some b =>
            rw [e5] at h
            simp only [Option.map_some, Option.some.injEq, Prod.mk.injEq] at h
            obtain ⟨rfl, rfl⟩ := h
            exact ⟨x, s1, y, s2, e1, e2, .inr ⟨e3, z, b, e4, e5, rfl⟩⟩
        · cases h
      · rename_i e3
        simp only [Option.some.injEq, Prod.mk.injEq] at h
        obtain ⟨rfl, rfl⟩ := h
        exact ⟨x, s1, y, s2, e1, e2, .inl ⟨e3, rfl, rfl⟩⟩
      · cases h
    · cases h
  · cases h
theorem newR_bl {K : PySem.W.Frag} {w : World} {W : Wd} {H H' : Hp} {b : Bool} {v : V} (h : NewR K w W H H' (.bl b) v) : H' = H ∧ v = .bl b := by
  rcases h with ⟨rfl, h, _⟩ | ⟨p, o, rfl, _, _, h⟩
  · unfold Rep at h
    exact ⟨rfl, h⟩
  · rcases h with h | ⟨ds, vs, h, _⟩
    · exact h.elim
    · cases h
theorem pv_chn {pp qq : D → D → Option Bool} {r r' : R2} {E : Expr} (hr : Pur2 X.K X.w r fun x y => (pp x y).map .bl) (hr' : Pur2 X.K X.w r' fun x y => (qq x y).map .bl) (h : ∀ ta tb tc, PE X a ta → PE X b tb → PE X c tc → PE X E (tChain r r' ta tb tc))
    (ha : PEv X cl .b a fa) (hb : PEv X cl .b b fb) (hc : PEv X cl .t c fc) : PEv X cl .n E (fChn pp qq fa fb fc) := PE.imp (h _ _ _ ha hb hc) fun σ H Q => by
  rintro ⟨W, env, sto, d, sto', Rr, hf, k⟩
  obtain ⟨x, s1, y, s2, e1, e2, e3⟩ := fChn_some hf
  refine ⟨W, env, sto, x, s1, Rr, e1, fun W1 H1 v le1 R1 r1 => ?_⟩
  refine ⟨W1, env, s1, y, s2, R1, e2, fun W2 H2 u le2 R2 r2 => ?_⟩
  have rx := res_b R2 le2.le r1
  have ry := res_b R2 (Wd.Le.refl _) r2
  rcases e3 with ⟨e3, rfl, rfl⟩ | ⟨e3, z, bb, e4, e5, rfl⟩
  · refine hr W2 H2 x y (.bl false) v u _ R2.s.subF rx ry (by show (pp x y).map D.bl = _; rw [e3]; rfl) fun H3 q nr => ?_
    obtain ⟨rfl, rfl⟩ := newR_bl nr
    refine ⟨false, rfl, ?_⟩
    rw [if_neg Bool.false_ne_true]
    exact k W2 H3 _ (le1.trans le2) R2 (.inl ⟨by simp [Rep], rfl⟩)
  · refine hr W2 H2 x y (.bl true) v u _ R2.s.subF rx ry (by show (pp x y).map D.bl = _; rw [e3]; rfl) fun H3 q nr => ?_
    obtain ⟨rfl, rfl⟩ := newR_bl nr
    refine ⟨true, rfl, ?_⟩
    rw [if_pos rfl]
    refine ⟨W2, env, s2, z, sto', R2, e4, fun W3 H4 t le3 R3 r3 => ?_⟩
    refine hr' W3 H4 y z (.bl bb) u t Q R3.s.subF (res_b R3 le3.le r2) r3 (by show (qq y z).map D.bl = _; rw [e5]; rfl) fun H5 q nr => ?_
    exact k W3 H5 q ((le1.trans le2).trans le3) (nr.res R3).1 (nr.res R3).2
theorem pt_chn {pp qq : D → D → Option Bool} {r r' : R2} {E : Expr} (hr : Pur2 X.K X.w r fun x y => (pp x y).map .bl) (hr' : Pur2 X.K X.w r' fun x y => (qq x y).map .bl) (h : ∀ ta tb tc, PE X a ta → PE X b tb → PE X c tc → PT X E (tTest (tChain r r' ta tb tc)))
    (ha : PEv X cl .b a fa) (hb : PEv X cl .b b fb) (hc : PEv X cl .t c fc) : PTv X cl E (fChn pp qq fa fb fc) := PT.imp (h _ _ _ ha hb hc) fun σ H Q => by
  rintro ⟨W, env, sto, d, sto', Rr, hf, k⟩
  obtain ⟨x, s1, y, s2, e1, e2, e3⟩ := fChn_some hf
  refine ⟨W, env, sto, x, s1, Rr, e1, fun W1 H1 v le1 R1 r1 => ?_⟩
  refine ⟨W1, env, s1, y, s2, R1, e2, fun W2 H2 u le2 R2 r2 => ?_⟩
  have rx := res_b R2 le2.le r1
  have ry := res_b R2 (Wd.Le.refl _) r2
  rcases e3 with ⟨e3, e6, rfl⟩ | ⟨e3, z, bb, e4, e5, e6⟩
  · cases e6
    refine hr W2 H2 x y (.bl false) v u _ R2.s.subF rx ry (by show (pp x y).map D.bl = _; rw [e3]; rfl) fun H3 q nr => ?_
    obtain ⟨rfl, rfl⟩ := newR_bl nr
    refine ⟨false, rfl, ?_⟩
    rw [if_neg Bool.false_ne_true]
    exact ⟨false, rfl, k W2 H3 (le1.trans le2) R2⟩
  · cases e6
    refine hr W2 H2 x y (.bl true) v u _ R2.s.subF rx ry (by show (pp x y).map D.bl = _; rw [e3]; rfl) fun H3 q nr => ?_
    obtain ⟨rfl, rfl⟩ := newR_bl nr
    refine ⟨true, rfl, ?_⟩
    rw [if_pos rfl]
    refine ⟨W2, env, s2, z, sto', R2, e4, fun W3 H4 t le3 R3 r3 => ?_⟩
    refine hr' W3 H4 y z (.bl d) u t _ R3.s.subF (res_b R3 le3.le r2) r3 (by show (qq y z).map D.bl = _; rw [e5]; rfl) fun H5 q nr => ?_
    obtain ⟨rfl, rfl⟩ := newR_bl nr
    exact ⟨d, rfl, k W3 H5 ((le1.trans le2).trans le3) R3⟩
end
end PI
/-! stores into objects -/
namespace PI
open PySem L2
section
variable {K : PySem.W.Frag} {w : World} {cl : Nat → Option Addr} {W : Wd} {env : Env} {sto : Sto} {σ : St} {H : Hp}
theorem cont_ins {p : Addr} {d : D} {C dx : Addr} {vs : List (Str × V)} (h : Cont K w W p d (.ins C dx vs)) : False := by
  cases d with
  | lst ds => obtain ⟨_, z, _⟩ := h; cases z
  | dct ds =>
    rcases h with ⟨_, z, _⟩ | ⟨_, z, _⟩
    · cases z
    · cases z
  | _ => exact h.elim
theorem look_ix {α : Type} : ∀ {l : List (Str × α)} {x : Str} {a : α}, l.lookup x = some a → ∃ j : Nat, l[j]? = some (x, a)
  | (y, b) :: r, x, a, h => by
    rw [List.lookup_cons] at h
    cases e : x == y with
    | true =>
      rw [e] at h
      simp only at h
      cases h
      have : x = y := by simpa using e
      subst this
      exact ⟨0, rfl⟩
    | false =>
      rw [e] at h
      obtain ⟨j, hj⟩ := look_ix h
      exact ⟨j + 1, by simpa using hj⟩
/-- a field is stored on both sides -/
theorem set_pair {G : Str × Cell → Str × V → Prop} {x : Str} {c : Cell} {v : V} : ∀ {fs : List (Str × Cell)} {vs : List (Str × V)}, Paired (fun a b => a.1 = b.1 ∧ G a b) fs vs → G (x, c) (x, v) →
    Paired (fun a b => a.1 = b.1 ∧ G a b) (setFd x c fs) (putF x v vs) ∧ ∃ j0 : Nat, ∀ (j : Nat) (p : Str × Cell) (q : Str × V), (setFd x c fs)[j]? = some p → (putF x v vs)[j]? = some q → (j ≠ j0 ∧ fs[j]? = some p ∧ vs[j]? = some q) ∨ (j = j0 ∧ p.2 = c ∧ q.2 = v)
  | _, _, .nil, g => ⟨.cons ⟨rfl, g⟩ .nil, 0, fun j p q h1 h2 => by
      cases j with
      | zero =>
        simp only [setFd, List.getElem?_cons_zero, Option.some.injEq] at h1
        simp only [putF, List.getElem?_cons_zero, Option.some.injEq] at h2
        subst h1; subst h2
        exact .inr ⟨rfl, rfl, rfl⟩
      | succ j => simp [setFd] at h1⟩
  | (y, cy) :: fs, (z, vz) :: vs, .cons ⟨h1, h2⟩ r, g => by
    have h1 : y = z := h1
    subst h1
    by_cases e : y = x
    · subst e
      refine ⟨?_, 0, fun j p q e1 e2 => ?_⟩
      · simp only [setFd, putF, if_true]
        exact .cons ⟨rfl, g⟩ r
      · simp only [setFd, putF, if_true] at e1 e2
        cases j with
        | zero =>
          simp only [List.getElem?_cons_zero, Option.some.injEq] at e1 e2
          subst e1; subst e2
          exact .inr ⟨rfl, rfl, rfl⟩
        | succ j =>
          simp only [List.getElem?_cons_succ] at e1 e2
          exact .inl ⟨by omega, by simpa using e1, by simpa using e2⟩
    · obtain ⟨q1, j0, q2⟩ := set_pair r g
      refine ⟨?_, j0 + 1, fun j p q e1 e2 => ?_⟩
      · simp only [setFd, putF, if_neg e]
        exact .cons ⟨rfl, h2⟩ q1
      · simp only [setFd, putF, if_neg e] at e1 e2
        cases j with
        | zero =>
          simp only [List.getElem?_cons_zero, Option.some.injEq] at e1 e2
          subst e1; subst e2
          exact .inl ⟨by omega, rfl, rfl⟩
        | succ j =>
          simp only [List.getElem?_cons_succ] at e1 e2
          rcases q2 j p q e1 e2 with ⟨n1, n2, n3⟩ | ⟨n1, n2, n3⟩
          · exact .inl ⟨by omega, by simpa using n2, by simpa using n3⟩
          · exact .inr ⟨by omega, n2, n3⟩
theorem setFd_length (x : Str) (c : Cell) : ∀ fs : List (Str × Cell), (setFd x c fs).length ≤ fs.length + 1
  | [] => by simp [setFd]
  | (y, b) :: r => by
    unfold setFd
    split
    · simp
    · have := setFd_length x c r
      simp only [List.length_cons]
      omega
/-- the object n is what it was but for what stands at x -/
theorem relS_set {n : Nat} {a C dx : Addr} {c : Nat} {fs : List (Str × Cell)} {vs : List (Str × V)} {x : Str} {nc : Cell} {v : V} (R : RelS K w cl W sto H) (ha : W.E[n]? = some a) (hs : sto[n]? = some (.ins c fs)) (hH : H a = some (.ins C dx vs)) (hc : cl c = some C)
    (hp : Paired (fun (x : Str × Cell) (y : Str × V) => x.1 = y.1 ∧ x.2.nl ∧ CellR K w W H x.2 y.2) fs vs) (nl : nc.nl) (hv : CellR K w W H nc v) (hf : ∀ d p, nc = .own d → v = .ref p → p ∉ W.E ∧ ∀ n f, ¬ FOwn W sto H n f p) :
    RelS K w cl W (sto.set n (.ins c (setFd x nc fs))) (upd H a (.ins C dx (putF x v vs))) ∧ ∀ n' f p, FOwn W (sto.set n (.ins c (setFd x nc fs))) (upd H a (.ins C dx (putF x v vs))) n' f p → FOwn W sto H n' f p ∨ ∃ d, nc = .own d ∧ v = .ref p := by
  have aE : a ∈ W.E := List.mem_of_getElem? ha
  have aF : W.F a = none := (R.nE a aE).1
  have aP : W.P a = none := (R.nE a aE).2
  have aL : W.L a = none := by
    cases q : W.L a with
    | none => rfl
    | some o => exact absurd aF (R.disL a o q)
  have hn : n < sto.length := (List.getElem?_eq_some_iff.mp hs).1
  have keep : ∀ b o, b ≠ a → H b = some o → upd H a (.ins C dx (putF x v vs)) b = some o := fun b o nb e => by rw [upd_ne nb]; exact e
  -- cells stand as they did
  have cellK : ∀ {c0 : Cell} {u : V}, CellR K w W H c0 u → CellR K w W (upd H a (.ins C dx (putF x v vs))) c0 u := fun {c0 u} h => by
    cases c0 with
    | val d => exact h
    | own d =>
      obtain ⟨p, o, e1, g1, g2, g3⟩ := h
      refine ⟨p, o, e1, ?_, g2, g3⟩
      rw [upd_ne]
      · exact g1
      · intro z
        rw [z, hH] at g1
        have e := Option.some.inj g1
        subst e
        exact cont_ins g2
    | lck d => exact h
  obtain ⟨sp1, j0, sp2⟩ := set_pair (x := x) (c := nc) (v := v) (G := fun (y : Str × Cell) (z : Str × V) => y.2.nl ∧ CellR K w W H y.2 z.2) hp ⟨nl, hv⟩
  have Eq : ∀ (n' : Nat) (b : Addr), W.E[n']? = some b → b = a → n' = n := fun n' b h e => by
    subst e
    exact (List.getElem?_inj (List.getElem?_eq_some_iff.mp h).1 R.nd).mp (h.trans ha.symm)
  have fo : ∀ n' f p, FOwn W (sto.set n (.ins c (setFd x nc fs))) (upd H a (.ins C dx (putF x v vs))) n' f p → (FOwn W sto H n' f p ∧ (n' = n → f ≠ j0)) ∨ (n' = n ∧ f = j0 ∧ ∃ d, nc = .own d ∧ v = .ref p) := fun n' f p ⟨b, hb, h⟩ => by
    by_cases e : n' = n
    · subst e
      rw [ha] at hb
      cases hb
      rw [List.getElem?_set_self hn, upd_same] at h
      rcases h with ⟨c', fs', y, d, C', dx', vs', z, h1, h2, h3, h4⟩ | ⟨cells, seed, h1, _⟩
      · cases h1
        cases h3
        rcases sp2 f _ _ h2 h4 with ⟨n1, n2, n3⟩ | ⟨n1, n2, n3⟩
        · exact .inl ⟨⟨a, ha, .inl ⟨c, fs, y, d, C, dx, vs, z, hs, n2, hH, n3⟩⟩, fun _ => n1⟩
        · exact .inr ⟨rfl, n1, d, n2.symm, n3.symm⟩
      · cases h1
    · rw [List.getElem?_set_ne (Ne.symm e)] at h
      have nb : b ≠ a := fun z => e (Eq n' b hb z)
      rw [upd_ne nb] at h
      exact .inl ⟨⟨b, hb, h⟩, fun z => absurd z e⟩
  refine ⟨⟨fun b o h => ?_, fun b o h => ?_, fun b o h => ?_, R.disj, R.disL, by simp [R.len], R.nd, R.nE, fun n' s b h1 h2 => ?_, fun n1 f1 n2 f2 p h1 h2 => ?_, fun n' f p h => ?_⟩, fun n' f p h => ?_⟩
  · have nb : b ≠ a := fun z => by rw [z, aF] at h; cases h
    rcases R.subF b o h with q | ⟨q1, ob, q2⟩
    · exact .inl (keep b _ nb q)
    · exact .inr ⟨q1, ob, keep b _ nb q2⟩
  · exact keep b o (fun z => by rw [z, aP] at h; cases h) (R.subP b o h)
  · exact keep b o (fun z => by rw [z, aL] at h; cases h) (R.subL b o h)
  · by_cases e : n' = n
    · subst e
      rw [List.getElem?_set_self hn] at h1
      cases h1
      rw [ha] at h2
      cases h2
      exact ⟨C, dx, _, upd_same, hc, paired_imp (fun y z k => ⟨k.1, k.2.1, cellK k.2.2⟩) sp1⟩
    · rw [List.getElem?_set_ne (Ne.symm e)] at h1
      have nb : b ≠ a := fun z => e (Eq n' b h2 z)
      have q := R.ob n' s b h1 h2
      cases s with
      | ins c' fs' =>
        obtain ⟨C', dx', vs', h3, h4, h5⟩ := q
        exact ⟨C', dx', vs', keep _ _ nb h3, h4, paired_imp (fun y z k => ⟨k.1, k.2.1, cellK k.2.2⟩) h5⟩
      | drw cells seed =>
        obtain ⟨p, h3, h4, h5⟩ := q
        refine ⟨p, keep _ _ nb h3, ?_, h5⟩
        rw [upd_ne]
        · exact h4
        · intro z
          rw [z, hH] at h4
          cases h4
  · rcases fo _ _ _ h1 with ⟨g1, g2⟩ | ⟨g1, g2, d, g3, g4⟩ <;> rcases fo _ _ _ h2 with ⟨k1, k2⟩ | ⟨k1, k2, d', k3, k4⟩
    · exact R.sep _ _ _ _ _ g1 k1
    · exact absurd g1 ((hf d' p k3 k4).2 _ _)
    · exact absurd k1 ((hf d p g3 g4).2 _ _)
    · exact ⟨by rw [g1, k1], by rw [g2, k2]⟩
  · rcases fo _ _ _ h with ⟨g1, g2⟩ | ⟨g1, g2, d, g3, g4⟩
    · exact R.sepE _ _ _ g1
    · exact (hf d p g3 g4).1
  · rcases fo _ _ _ h with ⟨g1, g2⟩ | ⟨g1, g2, d, g3, g4⟩
    · exact .inl g1
    · exact .inr ⟨d, g3, g4⟩
theorem rel_set {n : Nat} {a C dx : Addr} {c : Nat} {fs : List (Str × Cell)} {vs : List (Str × V)} {x : Str} {nc : Cell} {v : V} (R : Rel K w cl W env sto σ H) (ha : W.E[n]? = some a) (hs : sto[n]? = some (.ins c fs)) (hH : H a = some (.ins C dx vs)) (hc : cl c = some C)
    (hp : Paired (fun (x : Str × Cell) (y : Str × V) => x.1 = y.1 ∧ x.2.nl ∧ CellR K w W H x.2 y.2) fs vs) (nl : nc.nl) (hv : CellR K w W H nc v) (hf : ∀ d p, nc = .own d → v = .ref p → Free W env sto σ H p) :
    Rel K w cl W env (sto.set n (.ins c (setFd x nc fs))) σ (upd H a (.ins C dx (putF x v vs))) := by
  obtain ⟨S, fo⟩ := relS_set (x := x) R.s ha hs hH hc hp nl hv fun d p e1 e2 => ⟨(hf d p e1 e2).E, (hf d p e1 e2).own⟩
  refine ⟨S, R.e.len, fun i c0 h => ?_, R.e.sep, fun i d p n' f h1 h2 h3 => ?_, R.e.sepE⟩
  · obtain ⟨u, q1, q2⟩ := R.e.cell i c0 h
    refine ⟨u, q1, ?_⟩
    cases c0 with
    | val d => exact q2
    | own d =>
      obtain ⟨p, o, e1, g1, g2, g3⟩ := q2
      refine ⟨p, o, e1, ?_, g2, g3⟩
      rw [upd_ne]
      · exact g1
      · intro z
        rw [z, hH] at g1
        have e := Option.some.inj g1
        subst e
        exact cont_ins g2
    | lck d => exact q2
  · rcases fo _ _ _ h3 with g | ⟨d', g1, g2⟩
    · exact R.e.sepF i d p n' f h1 h2 g
    · exact (hf d' p g1 g2).env i d h1 h2

theorem paired_of_get {α β : Type} {G : α → β → Prop} : ∀ {l : List α} {l' : List β}, l.length = l'.length → (∀ (j : Nat) (a : α) (b : β), l[j]? = some a → l'[j]? = some b → G a b) → Paired G l l'
  | [], [], _, _ => .nil
  | a :: l, b :: l', h, k => .cons (k 0 a b rfl rfl) (paired_of_get (by simpa using h) fun j x y e1 e2 => k (j + 1) x y (by simpa using e1) (by simpa using e2))
  | [], _ :: _, h, _ => by simp at h
  | _ :: _, [], h, _ => by simp at h
theorem inplace_ix {G : Str × Cell → Str × V → Prop} {x : Str} {c nc : Cell} {v : V} : ∀ {fs : List (Str × Cell)} {vs : List (Str × V)}, Paired (fun a b => a.1 = b.1 ∧ G a b) fs vs → fs.lookup x = some c → vs.lookup x = some v →
    ∃ j0 : Nat, fs[j0]? = some (x, c) ∧ vs[j0]? = some (x, v) ∧ (setFd x nc fs)[j0]? = some (x, nc) ∧ (∀ j, j ≠ j0 → (setFd x nc fs)[j]? = fs[j]?) ∧ (setFd x nc fs).length = fs.length
  | (y, cy) :: fs, (z, vz) :: vs, .cons ⟨h1, h2⟩ r, e1, e2 => by
    have h1 : y = z := h1
    subst h1
    by_cases e : y = x
    · subst e
      simp only [List.lookup_cons, beq_self_eq_true] at e1 e2
      cases e1
      cases e2
      refine ⟨0, rfl, rfl, by simp [setFd], fun j hj => ?_, by simp [setFd]⟩
      cases j with
      | zero => exact absurd rfl hj
      | succ j => simp [setFd]
    · have e' : (x == y) = false := by simpa using fun z => e z.symm
      simp only [List.lookup_cons, e'] at e1 e2
      obtain ⟨j0, q1, q2, q3, q4, q5⟩ := inplace_ix (nc := nc) r e1 e2
      refine ⟨j0 + 1, by simpa using q1, by simpa using q2, by simpa [setFd, if_neg e] using q3, fun j hj => ?_, by simp [setFd, if_neg e, q5]⟩
      cases j with
      | zero => simp [setFd, if_neg e]
      | succ j =>
        simp only [setFd, if_neg e, List.getElem?_cons_succ]
        exact q4 j (fun z => hj (by rw [z]))
/-- the list of a field changes in its place -/
theorem rel_inplace {n : Nat} {a p C dx : Addr} {c : Nat} {fs : List (Str × Cell)} {vs : List (Str × V)} {x : Str} {d d' : D} {o' : HO} (R : Rel K w cl W env sto σ H) (ha : W.E[n]? = some a) (hs : sto[n]? = some (.ins c fs)) (hH : H a = some (.ins C dx vs)) (hc : cl c = some C)
    (hp : Paired (fun (x : Str × Cell) (y : Str × V) => x.1 = y.1 ∧ x.2.nl ∧ CellR K w W H x.2 y.2) fs vs) (hx : fs.lookup x = some (.own d)) (hv : vs.lookup x = some (.ref p)) (hm : Cont K w W p d' o') :
    Rel K w cl W env (sto.set n (.ins c (setFd x (.own d') fs))) σ (upd H p o') := by
  obtain ⟨j0, x1, x2, x3, x4, x5⟩ := inplace_ix (G := fun (y : Str × Cell) (z : Str × V) => y.2.nl ∧ CellR K w W H y.2 z.2) (nc := .own d') hp hx hv
  have own0 : FOwn W sto H n j0 p := ⟨a, ha, .inl ⟨c, fs, x, d, C, dx, vs, x, hs, x1, hH, x2⟩⟩
  obtain ⟨pS, pF, pP⟩ := fown_some R.s own0
  have pE := R.s.sepE _ _ _ own0
  have hn : n < sto.length := (List.getElem?_eq_some_iff.mp hs).1
  -- what stood at p
  obtain ⟨o, hpo, hco⟩ : ∃ o, H p = some o ∧ Cont K w W p d o := by
    obtain ⟨y', z1, z2, z3, z4⟩ := paired_get hp x1
    rw [x2] at z1
    cases z1
    obtain ⟨q, o, e1, g1, g2, _⟩ := z4
    cases e1
    exact ⟨o, g1, g2⟩
  have nfrz : ∀ (ob : Obj) (u : HO), H p ≠ some (.frz ob u) := fun ob u z => by
    rw [hpo] at z
    have e := Option.some.inj z
    subst e
    cases d with
    | lst ds => obtain ⟨_, z, _⟩ := hco; cases z
    | dct ds =>
      rcases hco with ⟨_, z, _⟩ | ⟨_, z, _⟩
      · cases z
      · cases z
    | _ => exact hco.elim
  have nins : ∀ C' dx' vs', H p ≠ some (.ins C' dx' vs') := fun C' dx' vs' z => by
    rw [hpo] at z
    have e := Option.some.inj z
    subst e
    exact cont_ins hco
  have pL : W.L p = none := by
    cases q : W.L p with
    | none => rfl
    | some o => exact absurd pF (R.s.disL p o q)
  have keep : ∀ b, b ≠ p → upd H p o' b = H b := fun b nb => upd_ne nb
  have nbE : ∀ b, b ∈ W.E → b ≠ p := fun b h z => pE (by rw [← z]; exact h)
  have cellK : ∀ {c0 : Cell} {u : V}, CellR K w W H c0 u → (∀ d0, c0 = .own d0 → u ≠ .ref p) → CellR K w W (upd H p o') c0 u := fun {c0 u} h k => by
    cases c0 with
    | val d => exact h
    | own d =>
      obtain ⟨q, o, e1, g1, g2, g3⟩ := h
      exact ⟨q, o, e1, by rw [keep q fun z => k d rfl (by rw [e1, z])]; exact g1, g2, g3⟩
    | lck d => exact h
  have Eq : ∀ (n' : Nat) (b : Addr), W.E[n']? = some b → b = a → n' = n := fun n' b h e => by
    subst e
    exact (List.getElem?_inj (List.getElem?_eq_some_iff.mp h).1 R.s.nd).mp (h.trans ha.symm)
  have fo : ∀ n' f q, FOwn W (sto.set n (.ins c (setFd x (.own d') fs))) (upd H p o') n' f q → FOwn W sto H n' f q := fun n' f q ⟨b, hb, h⟩ => by
    rw [keep b (nbE b (List.mem_of_getElem? hb))] at h
    by_cases e : n' = n
    · subst e
      rw [ha] at hb
      cases hb
      rw [List.getElem?_set_self hn] at h
      rcases h with ⟨c', fs', y, d1, C', dx', vs', z, h1, h2, h3, h4⟩ | ⟨cells, seed, h1, _⟩
      · cases h1
        rw [hH] at h3
        cases h3
        by_cases hj : f = j0
        · subst hj
          rw [x2] at h4
          cases h4
          exact own0
        · rw [x4 f hj] at h2
          exact ⟨a, ha, .inl ⟨c, fs, y, d1, C, dx, vs, z, hs, h2, hH, h4⟩⟩
      · cases h1
    · rw [List.getElem?_set_ne (Ne.symm e)] at h
      exact ⟨b, hb, h⟩
  refine ⟨⟨fun b u h => ?_, fun b u h => ?_, fun b u h => ?_, R.s.disj, R.s.disL, by simp [R.s.len], R.s.nd, R.s.nE, fun n' s b h1 h2 => ?_, fun n1 f1 n2 f2 q h1 h2 => R.s.sep _ _ _ _ _ (fo _ _ _ h1) (fo _ _ _ h2), fun n' f q h => R.s.sepE _ _ _ (fo _ _ _ h)⟩, R.e.len, fun i c0 h => ?_, R.e.sep, fun i d1 q n' f h1 h2 h3 => R.e.sepF i d1 q n' f h1 h2 (fo _ _ _ h3), R.e.sepE⟩
  · have nb : b ≠ p := fun z => by rw [z, pF] at h; cases h
    rcases R.s.subF b u h with q | ⟨q1, ob, q2⟩
    · exact .inl (by rw [keep b nb]; exact q)
    · exact .inr ⟨q1, ob, by rw [keep b nb]; exact q2⟩
  · rw [keep b fun z => by rw [z, pP] at h; cases h]
    exact R.s.subP b u h
  · rw [keep b fun z => by rw [z, pL] at h; cases h]
    exact R.s.subL b u h
  · have nb := nbE b (List.mem_of_getElem? h2)
    by_cases e : n' = n
    · subst e
      rw [List.getElem?_set_self hn] at h1
      cases h1
      rw [ha] at h2
      cases h2
      refine ⟨C, dx, vs, by rw [keep a nb]; exact hH, hc, paired_of_get (by rw [x5]; exact paired_length hp) fun j y z e1 e2 => ?_⟩
      by_cases hj : j = j0
      · subst hj
        rw [x3] at e1
        cases e1
        rw [x2] at e2
        cases e2
        exact ⟨rfl, True.intro, p, o', rfl, upd_same, hm, pF, pP⟩
      · rw [x4 j hj] at e1
        obtain ⟨z', q1, q2, q3, q4⟩ := paired_get hp e1
        rw [e2] at q1
        cases q1
        refine ⟨q2, q3, cellK q4 fun d0 k1 k2 => ?_⟩
        obtain ⟨y, cy⟩ := y
        obtain ⟨z, vz⟩ := z
        have k1 : cy = .own d0 := k1
        have k2 : vz = .ref p := k2
        subst k1; subst k2
        exact hj (R.s.sep _ j _ j0 p ⟨a, ha, .inl ⟨c, fs, y, d0, C, dx, vs, z, hs, e1, hH, e2⟩⟩ own0).2
    · rw [List.getElem?_set_ne (Ne.symm e)] at h1
      have q := R.s.ob n' s b h1 h2
      cases s with
      | ins c' fs' =>
        obtain ⟨C', dx', vs', h3, h4, h5⟩ := q
        refine ⟨C', dx', vs', by rw [keep b nb]; exact h3, h4, paired_mem_imp (fun j y z e1 e2 k => ⟨k.1, k.2.1, cellK k.2.2 fun d0 k1 k2 => ?_⟩) h5⟩
        obtain ⟨y, cy⟩ := y
        obtain ⟨z, vz⟩ := z
        have k1 : cy = .own d0 := k1
        have k2 : vz = .ref p := k2
        subst k1; subst k2
        exact e (R.s.sep n' j n j0 p ⟨b, h2, .inl ⟨c', fs', y, d0, C', dx', vs', z, h1, e1, h3, e2⟩⟩ own0).1
      | drw cells seed =>
        obtain ⟨q, h3, h4, h5⟩ := q
        refine ⟨q, by rw [keep b nb]; exact h3, ?_, h5⟩
        rw [keep q fun z => ?_]
        · exact h4
        · subst z
          exact e (R.s.sep n' 0 n j0 q ⟨b, h2, .inr ⟨cells, seed, h1, h3, rfl⟩⟩ own0).1
  · obtain ⟨u, q1, q2⟩ := R.e.cell i c0 h
    refine ⟨u, q1, cellK q2 fun d0 k1 k2 => ?_⟩
    subst k1; subst k2
    exact R.e.sepF i d0 p n j0 h q1 own0
end
end PI
/-! statements -/
namespace PI
open PySem L2
section
variable {K : PySem.W.Frag} {w : World} {cl : Nat → Option Addr} {W : Wd} {env : Env} {sto : Sto} {σ : St} {H : Hp}
theorem get_set {α : Type} {l : List α} {i j : Nat} {a b : α} (h : (l.set i a)[j]? = some b) : (j = i ∧ b = a ∧ i < l.length) ∨ (j ≠ i ∧ l[j]? = some b) := by
  rw [List.getElem?_set] at h
  by_cases e : i = j
  · rw [if_pos e] at h
    subst e
    split at h
    · rename_i hl
      exact .inl ⟨rfl, (Option.some.inj h).symm, hl⟩
    · cases h
  · rw [if_neg e] at h
    exact .inr ⟨fun z => e z.symm, h⟩
/-- a name is set -/
theorem rel_put {i : Nat} {c : Cell} {v : V} (R : Rel K w cl W env sto σ H) (hc : CellR K w W H c v) (hf : ∀ d p, c = .own d → v = .ref p → Free W env sto σ H p) : Rel K w cl W (env.set i (some c)) sto (σ.set i (some v)) H := by
  have hv : ∀ {d p}, c = .own d → v = .ref p → Free W env sto σ H p := fun {d p} a b => hf d p a b
  have sg : ∀ {j : Nat} {p : Addr}, (σ.set i (some v))[j]? = some (some (.ref p)) → (j = i ∧ v = .ref p) ∨ (j ≠ i ∧ σ[j]? = some (some (.ref p))) := fun {j p} h => by
    rcases get_set h with ⟨a, b, _⟩ | h
    · exact .inl ⟨a, (Option.some.inj b).symm⟩
    · exact .inr h
  have eg : ∀ {j : Nat} {c' : Cell}, (env.set i (some c))[j]? = some (some c') → (j = i ∧ c' = c ∧ i < env.length) ∨ (j ≠ i ∧ env[j]? = some (some c')) := fun {j c'} h => by
    rcases get_set h with ⟨a, b, l⟩ | h
    · exact .inl ⟨a, Option.some.inj b, l⟩
    · exact .inr h
  refine ⟨R.s, by rw [List.length_set, List.length_set]; exact R.e.len, fun j c' h => ?_, fun j k d d' p h1 h2 h3 h4 => ?_, fun j d p n f h1 h2 h3 => ?_, fun j d p h1 h2 => ?_⟩
  · rcases eg h with ⟨rfl, rfl, l⟩ | ⟨n, h⟩
    · exact ⟨v, by rw [List.getElem?_set_self (by rw [← R.e.len]; exact l)], hc⟩
    · obtain ⟨u, q1, q2⟩ := R.e.cell j c' h
      exact ⟨u, by rw [List.getElem?_set_ne (fun z => n z.symm)]; exact q1, q2⟩
  · rcases eg h1 with ⟨a1, e1, _⟩ | ⟨n1, g1⟩ <;> rcases eg h2 with ⟨a2, e2, _⟩ | ⟨n2, g2⟩
    · rw [a1, a2]
    · rcases sg h3 with ⟨_, e3⟩ | ⟨n3, _⟩
      · rcases sg h4 with ⟨e4, _⟩ | ⟨_, g4⟩
        · exact absurd e4 n2
        · exact absurd g4 ((hv e1.symm e3).env k d' g2)
      · exact absurd a1 n3
    · rcases sg h4 with ⟨_, e4⟩ | ⟨n4, _⟩
      · rcases sg h3 with ⟨e3, _⟩ | ⟨_, g3⟩
        · exact absurd e3 n1
        · exact absurd g3 ((hv e2.symm e4).env j d g1)
      · exact absurd a2 n4
    · rcases sg h3 with ⟨e3, _⟩ | ⟨_, g3⟩
      · exact absurd e3 n1
      · rcases sg h4 with ⟨e4, _⟩ | ⟨_, g4⟩
        · exact absurd e4 n2
        · exact R.e.sep j k d d' p g1 g2 g3 g4
  · rcases eg h1 with ⟨rfl, e1, _⟩ | ⟨n1, h1⟩
    · rcases sg h2 with ⟨_, e2⟩ | ⟨n2, _⟩
      · exact (hv e1.symm e2).own n f h3
      · exact absurd rfl n2
    · rcases sg h2 with ⟨e2, _⟩ | ⟨_, h2⟩
      · exact absurd e2 n1
      · exact R.e.sepF j d p n f h1 h2 h3
  · rcases eg h1 with ⟨rfl, e1, _⟩ | ⟨n1, h1⟩
    · rcases sg h2 with ⟨_, e2⟩ | ⟨n2, _⟩
      · exact (hv e1.symm e2).E
      · exact absurd rfl n2
    · rcases sg h2 with ⟨e2, _⟩ | ⟨_, h2⟩
      · exact absurd e2 n1
      · exact R.e.sepE j d p h1 h2
theorem rel_val {i : Nat} {d : D} {v : V} (R : Rel K w cl W env sto σ H) (r : Rep K w W d v) : Rel K w cl W (env.set i (some (.val d))) sto (σ.set i (some v)) H :=
  rel_put R r fun _ _ e => by cases e
theorem rel_own {i : Nat} {d : D} {p : Addr} {o : HO} (R : Rel K w cl W env sto σ H) (h : H p = some o) (hm : Cont K w W p d o) (f : Free W env sto σ H p) : Rel K w cl W (env.set i (some (.own d))) sto (σ.set i (some (.ref p))) H :=
  rel_put R ⟨p, o, rfl, h, hm, f.F, f.P⟩ fun _ _ _ e => by cases e; exact f
theorem make_cont {p : Addr} {d : D} {o : HO} (h : Make K w W p d o) (e : d.isLD = true) : Cont K w W p d o := by
  rcases h with h | ⟨ds, vs, rfl, _⟩
  · exact h
  · cases e
/-- the container of a name changes in its place -/
theorem rel_slot {i : Nat} {p : Addr} {d d' : D} {o' : HO} (R : Rel K w cl W env sto σ H) (he : env[i]? = some (some (.own d))) (hs : σ[i]? = some (some (.ref p))) (hm : Cont K w W p d' o') : Rel K w cl W (env.set i (some (.own d'))) sto σ (upd H p o') := by
  obtain ⟨v, q1, p', o, q2, hpo, hco, pF, pP⟩ := R.e.cell i _ he
  rw [hs] at q1
  cases q1
  cases q2
  have pE := R.e.sepE i d p he hs
  have pN : ∀ n f, ¬ FOwn W sto H n f p := fun n f => R.e.sepF i d p n f he hs
  have pL : W.L p = none := by
    cases q : W.L p with
    | none => rfl
    | some o => exact absurd pF (R.s.disL p o q)
  have keep : ∀ b, b ≠ p → upd H p o' b = H b := fun b nb => upd_ne nb
  have nbE : ∀ b, b ∈ W.E → b ≠ p := fun b h z => pE (by rw [← z]; exact h)
  have fo : ∀ n f q, FOwn W sto (upd H p o') n f q → FOwn W sto H n f q := fun n f q ⟨b, hb, h⟩ => by
    rw [keep b (nbE b (List.mem_of_getElem? hb))] at h
    exact ⟨b, hb, h⟩
  have cellK : ∀ {c0 : Cell} {u : V}, CellR K w W H c0 u → (∀ d0, c0 = .own d0 → u ≠ .ref p) → CellR K w W (upd H p o') c0 u := fun {c0 u} h k => by
    cases c0 with
    | val d => exact h
    | own d =>
      obtain ⟨q, o, e1, g1, g2, g3⟩ := h
      exact ⟨q, o, e1, by rw [keep q fun z => k d rfl (by rw [e1, z])]; exact g1, g2, g3⟩
    | lck d => exact h
  have eg : ∀ {j : Nat} {c' : Cell}, (env.set i (some (.own d')))[j]? = some (some c') → (j = i ∧ c' = .own d') ∨ (j ≠ i ∧ env[j]? = some (some c')) := fun {j c'} h => by
    rcases get_set h with ⟨a, b, _⟩ | h
    · exact .inl ⟨a, Option.some.inj b⟩
    · exact .inr h
  have eo : ∀ {j : Nat} {d0 : D}, (env.set i (some (.own d')))[j]? = some (some (.own d0)) → ∃ d1, env[j]? = some (some (.own d1)) := fun {j d0} h => by
    rcases eg h with ⟨rfl, _⟩ | ⟨_, h⟩
    · exact ⟨d, he⟩
    · exact ⟨d0, h⟩
  refine ⟨⟨fun b u h => ?_, fun b u h => ?_, fun b u h => ?_, R.s.disj, R.s.disL, R.s.len, R.s.nd, R.s.nE, fun n s b h1 h2 => ?_, fun n1 f1 n2 f2 q h1 h2 => R.s.sep _ _ _ _ _ (fo _ _ _ h1) (fo _ _ _ h2), fun n f q h => R.s.sepE _ _ _ (fo _ _ _ h)⟩,
    by rw [List.length_set]; exact R.e.len, fun j c0 h => ?_, fun j k d0 d1 q h1 h2 h3 h4 => ?_, fun j d0 q n f h1 h2 h3 => ?_, fun j d0 q h1 h2 => ?_⟩
  · have nb : b ≠ p := fun z => by rw [z, pF] at h; cases h
    rcases R.s.subF b u h with q | ⟨q1, ob, q2⟩
    · exact .inl (by rw [keep b nb]; exact q)
    · exact .inr ⟨q1, ob, by rw [keep b nb]; exact q2⟩
  · rw [keep b fun z => by rw [z, pP] at h; cases h]
    exact R.s.subP b u h
  · rw [keep b fun z => by rw [z, pL] at h; cases h]
    exact R.s.subL b u h
  · have nb := nbE b (List.mem_of_getElem? h2)
    have q := R.s.ob n s b h1 h2
    cases s with
    | ins c fs =>
      obtain ⟨C, dx, vs, h3, h4, h5⟩ := q
      refine ⟨C, dx, vs, by rw [keep b nb]; exact h3, h4, paired_mem_imp (fun j y z e1 e2 k => ⟨k.1, k.2.1, cellK k.2.2 fun d0 k1 k2 => ?_⟩) h5⟩
      obtain ⟨y, cy⟩ := y
      obtain ⟨z, vz⟩ := z
      have k1 : cy = .own d0 := k1
      have k2 : vz = .ref p := k2
      subst k1; subst k2
      exact pN n j ⟨b, h2, .inl ⟨c, fs, y, d0, C, dx, vs, z, h1, e1, h3, e2⟩⟩
    | drw cells seed =>
      obtain ⟨q, h3, h4, h5⟩ := q
      refine ⟨q, by rw [keep b nb]; exact h3, ?_, h5⟩
      rw [keep q fun z => ?_]
      · exact h4
      · subst z
        exact pN n 0 ⟨b, h2, .inr ⟨cells, seed, h1, h3, rfl⟩⟩
  · rcases eg h with ⟨rfl, rfl⟩ | ⟨n, h⟩
    · exact ⟨.ref p, hs, p, o', rfl, upd_same, hm, pF, pP⟩
    · obtain ⟨u, q1, q2⟩ := R.e.cell j c0 h
      refine ⟨u, q1, cellK q2 fun d0 k1 k2 => ?_⟩
      subst k1; subst k2
      exact n (R.e.sep j i d0 d p h he q1 hs)
  · obtain ⟨a1, h1⟩ := eo h1
    obtain ⟨a2, h2⟩ := eo h2
    exact R.e.sep j k a1 a2 q h1 h2 h3 h4
  · obtain ⟨a1, h1⟩ := eo h1
    exact R.e.sepF j a1 q n f h1 h2 (fo n f q h3)
  · obtain ⟨a1, h1⟩ := eo h1
    exact R.e.sepE j a1 q h1 h2
end

/-! ### the judgement of statements -/
section
variable (K : PySem.W.Frag) (w : World) (cl : Nat → Option Addr) (ro : Bool)
def EndR (W : Wd) (o : Out) (Dn : Ends) : Prop := ∀ W' H', W.Ext W' → match o with
  | .nx e s => ∀ σ', Rel K w cl W' e s σ' H' → Dn.nx σ' H'
  | .ct e s => ∀ σ', Rel K w cl W' e s σ' H' → Dn.ct σ' H'
  | .bk e s => ∀ σ', Rel K w cl W' e s σ' H' → Dn.bk σ' H'
  | .rt d s => ∀ v, RelS K w cl W' s H' → ResF K w ro W' s H' d v → Dn.rt v H'
def tS (f : Fs) : TS := fun Dn σ H => ∃ W env sto o, Rel K w cl W env sto σ H ∧ f env sto = some o ∧ EndR K w cl ro W o Dn
end
abbrev PSv (X : Cx) (cl : Nat → Option Addr) (ro : Bool) (st : Stmt) (f : Fs) : Prop := PS X st (tS X.K X.w cl ro f)
abbrev PSsv (X : Cx) (cl : Nat → Option Addr) (ro : Bool) (st : List Stmt) (f : Fs) : Prop := PSs X st (tS X.K X.w cl ro f)
section
variable {X : Cx} {cl : Nat → Option Addr} {ro : Bool} {e a b c : Expr} {st : Stmt} {rest sa sb : List Stmt} {f g h fa fb fc : Fe} {F G : Fs} {pos p : Pos}
theorem EndR.mono {K : PySem.W.Frag} {w : World} {W W' : Wd} {o : Out} {Dn : Ends} (le : W.Ext W') (h : EndR K w cl ro W o Dn) : EndR K w cl ro W' o Dn := fun W2 H2 le2 => h W2 H2 (le.trans le2)
theorem ss_nil : PSsv X cl ro [] xPas := PSs.imp pss_nil fun Dn σ H => by
  rintro ⟨W, env, sto, o, R, hf, k⟩
  cases hf
  exact k W H (.refl _) σ R
theorem tseq {Dn : Ends} {σ : St} {H : Hp} (h : tS X.K X.w cl ro (xSeq F G) Dn σ H) : tSeq (tS X.K X.w cl ro F) (tS X.K X.w cl ro G) Dn σ H := by
  obtain ⟨W, env, sto, o, R, hf, k⟩ := h
  unfold xSeq at hf
  split at hf
  · rename_i e1 s1 h1
    refine ⟨W, env, sto, _, R, h1, fun W' H' le σ' R' => ?_⟩
    exact ⟨W', e1, s1, o, R', hf, k.mono le⟩
  · rename_i h1
    refine ⟨W, env, sto, o, R, hf, ?_⟩
    cases o with
    | nx e1 s1 => exact absurd hf (h1 e1 s1)
    | ct e1 s1 => exact k
    | bk e1 s1 => exact k
    | rt d s1 => exact k
theorem ss_cons (h1 : PSv X cl ro st F) (h2 : PSsv X cl ro rest G) : PSsv X cl ro (st :: rest) (xSeq F G) := PSs.imp (pss_cons h1 h2) fun Dn σ H q => tseq q
theorem ss_one (h1 : PSv X cl ro st F) : PSsv X cl ro [st] F := pss_one h1
theorem vs_pas : PSv X cl ro (.Pass pos) xPas := PS.imp ps_pass fun Dn σ H => by
  rintro ⟨W, env, sto, o, R, hf, k⟩
  cases hf
  exact k W H (.refl _) σ R
theorem vs_brk : PSv X cl ro (.Break pos) xBrk := PS.imp ps_break fun Dn σ H => by
  rintro ⟨W, env, sto, o, R, hf, k⟩
  cases hf
  exact k W H (.refl _) σ R
theorem vs_cnt : PSv X cl ro (.Continue pos) xCnt := PS.imp ps_continue fun Dn σ H => by
  rintro ⟨W, env, sto, o, R, hf, k⟩
  cases hf
  exact k W H (.refl _) σ R
theorem resF_non {K : PySem.W.Frag} {w : World} {W : Wd} {s : Sto} {H : Hp} : ResF K w ro W s H .non .non := by
  cases ro with
  | false => show Rep K w W .non .non; simp [Rep]
  | true => exact .inl ⟨by simp [Rep], rfl⟩
theorem vs_retn : PSv X cl ro (.Return none pos) xRetn := PS.imp ps_retN fun Dn σ H => by
  rintro ⟨W, env, sto, o, R, hf, k⟩
  cases hf
  exact k W H (.refl _) .non R.s resF_non
theorem vs_ret (ha : PEv X cl .s a fa) : PSv X cl false (.Return (some a) pos) (xRet fa) := PS.imp (ps_ret ha) fun Dn σ H => by
  rintro ⟨W, env, sto, o, R, hf, k⟩
  unfold xRet at hf
  split at hf
  · rename_i d s1 h1
    cases hf
    exact ⟨W, env, sto, d, s1, R, h1, fun W' H' v le R' r => k W' H' le v R'.s r⟩
  · cases hf
theorem vs_rown (ha : PEv X cl .n a fa) : PSv X cl true (.Return (some a) pos) (xRet fa) := PS.imp (ps_ret ha) fun Dn σ H => by
  rintro ⟨W, env, sto, o, R, hf, k⟩
  unfold xRet at hf
  split at hf
  · rename_i d s1 h1
    cases hf
    refine ⟨W, env, sto, d, s1, R, h1, fun W' H' v le R' r => k W' H' le v R'.s ?_⟩
    rcases r with r | ⟨q, o, e1, g1, g2, g3⟩
    · exact .inl r
    · exact .inr ⟨q, o, e1, g1, g2, g3.F, g3.P, g3.E, g3.own⟩
  · cases hf
theorem vs_retv {i : Nat} (ha : PE X a (tVar i)) : PSv X cl true (.Return (some a) pos) (xRetv i) := PS.imp (ps_ret ha) fun Dn σ H => by
  rintro ⟨W, env, sto, o, R, hf, k⟩
  unfold xRetv at hf
  split at hf
  · rename_i d h1
    cases hf
    obtain ⟨v, q1, p, o, rfl, g1, g2, g3, g4⟩ := R.e.cell i _ h1
    exact ⟨_, q1, k W H (.refl _) _ R.s (.inr ⟨p, o, rfl, g1, .inl g2, g3, g4, R.e.sepE i d p h1 q1, fun n f => R.e.sepF i d p n f h1 q1⟩)⟩
  · cases hf
theorem vs_expr (ha : PEv X cl .s a fa) (hs : swapsWith a none pos.line X.env = pure false) : PSv X cl ro (.Expr a pos) (xExpr fa) := PS.imp (ps_expr ha hs) fun Dn σ H => by
  rintro ⟨W, env, sto, o, R, hf, k⟩
  unfold xExpr at hf
  split at hf
  · rename_i d s1 h1
    cases hf
    exact ⟨W, env, sto, d, s1, R, h1, fun W' H' v le R' r => k W' H' le σ R'⟩
  · cases hf
theorem vs_if (hc : PTv X cl c fc) (ha : PSsv X cl ro sa F) (hb : PSsv X cl ro sb G) : PSv X cl ro (.If c sa sb pos) (xIf fc F G) := PS.imp (ps_if hc ha hb) fun Dn σ H => by
  rintro ⟨W, env, sto, o, R, hf, k⟩
  unfold xIf at hf
  split at hf
  · rename_i s1 h1
    refine ⟨W, env, sto, true, s1, R, h1, fun W' H' le R' => ?_⟩
    show (if true = true then _ else _)
    rw [if_pos rfl]
    exact ⟨W', env, s1, o, R', hf, k.mono le⟩
  · rename_i s1 h1
    refine ⟨W, env, sto, false, s1, R, h1, fun W' H' le R' => ?_⟩
    show (if false = true then _ else _)
    rw [if_neg Bool.false_ne_true]
    exact ⟨W', env, s1, o, R', hf, k.mono le⟩
  · cases hf
/-! ### names -/
def PGn (X : Cx) (tg : Expr) (i : Nat) : Prop := PG X tg (gName i)
theorem vs_asg {i : Nat} {tg : Expr} (ha : PEv X cl .s a fa) (H0 : ∀ {te : TE}, PE X a te → PS X (.Assign [tg] a pos) (tAsg te (gName i))) : PSv X cl ro (.Assign [tg] a pos) (xAsg (.n i) fa) := PS.imp (H0 ha) fun Dn σ H => by
  rintro ⟨W, env, sto, o, R, hf, k⟩
  unfold xAsg at hf
  split at hf
  · rename_i d s1 h1
    simp only [tgSet, Option.map_some, Option.some.injEq] at hf
    subst hf
    exact ⟨W, env, sto, d, s1, R, h1, fun W' H' v le R' r => k W' H' le _ (rel_val R' r)⟩
  · cases hf
theorem vs_own {i : Nat} {tg : Expr} (ha : PEv X cl .n a fa) (H0 : ∀ {te : TE}, PE X a te → PS X (.Assign [tg] a pos) (tAsg te (gName i))) : PSv X cl ro (.Assign [tg] a pos) (xOwn i fa) := PS.imp (H0 ha) fun Dn σ H => by
  rintro ⟨W, env, sto, o, R, hf, k⟩
  unfold xOwn at hf
  split at hf
  · rename_i d s1 h1
    split at hf
    · rename_i hl
      cases hf
      refine ⟨W, env, sto, d, s1, R, h1, fun W' H' v le R' r => ?_⟩
      rcases r with ⟨r, hn⟩ | ⟨p, o, rfl, g1, g2, g3⟩
      · cases d <;> first | exact absurd hl Bool.false_ne_true | cases hn
      · exact k W' H' le _ (rel_own R' g1 (make_cont g2 hl) g3)
    · cases hf
  · cases hf
/-- names from a tuple -/
def gNames : List Nat → TGs
  | [] => gNil
  | i :: r => gCons (gName i) (gNames r)
def setAll : List Nat → List D → Env → Env
  | i :: is, d :: ds, env => setAll is ds (env.set i (some (.val d)))
  | _, _, env => env
theorem setAll_eq : ∀ (is : List Nat) (ds : List D) (env : Env), (is.zip ds).foldl (fun e p => e.set p.1 (some (.val p.2))) env = setAll is ds env
  | [], ds, env => by simp [setAll]
  | i :: is, [], env => by simp [setAll]
  | i :: is, d :: ds, env => by simp only [List.zip_cons_cons, List.foldl_cons, setAll]; exact setAll_eq is ds _
theorem names_ok {K : PySem.W.Frag} {w : World} {W : Wd} {H : Hp} {sto : Sto} : ∀ (is : List Nat) (ds : List D) (vs : List V) (env : Env) (σ : St) (Q : St → Hp → Prop), is.length = ds.length → Reps K w W ds vs → Rel K w cl W env sto σ H →
    (∀ σ', Rel K w cl W (setAll is ds env) sto σ' H → Q σ' H) → gNames is vs σ H Q
  | [], [], vs, env, σ, Q, _, r, R, k => by
    unfold Reps at r
    exact ⟨r, k σ R⟩
  | i :: is, d :: ds, vs, env, σ, Q, hl, r, R, k => by
    unfold Reps at r
    obtain ⟨v, vr, e, r1, r2⟩ := r
    exact ⟨v, vr, e, names_ok is ds vr _ _ Q (by simpa using hl) r2 (rel_val R r1) k⟩
  | [], _ :: _, _, _, _, _, hl, _, _, _ => by simp at hl
  | _ :: _, [], _, _, _, _, hl, _, _, _ => by simp at hl
theorem tgT {K : PySem.W.Frag} {w : World} {W : Wd} {H : Hp} {sto : Sto} {is : List Nat} {d : D} {v : V} {env env' : Env} {σ : St} {Q : St → Hp → Prop} (h : tgSet (.t is) d env = some env') (r : Rep K w W d v) (R : Rel K w cl W env sto σ H) (k : ∀ σ', Rel K w cl W env' sto σ' H → Q σ' H) :
    gTup K is.length (gNames is) v σ H Q := by
  cases d with
  | tup ds =>
    simp only [tgSet] at h
    split at h
    · rename_i hl
      simp only [Option.some.injEq] at h
      subst h
      rw [setAll_eq] at k
      obtain ⟨a, vs, e, h1, h2⟩ := Top.tup R.s.subF (.inl r)
      exact ⟨a, vs, e, h1, by rw [reps_length h2, hl], names_ok is ds vs env σ Q hl h2 R k⟩
    · cases h
  | _ => simp [tgSet] at h
theorem vs_asgT {is : List Nat} {tg : Expr} (ha : PEv X cl .s a fa) (H0 : ∀ {te : TE}, PE X a te → PS X (.Assign [tg] a pos) (tAsg te (gTup X.K is.length (gNames is)))) : PSv X cl ro (.Assign [tg] a pos) (xAsg (.t is) fa) := PS.imp (H0 ha) fun Dn σ H => by
  rintro ⟨W, env, sto, o, R, hf, k⟩
  unfold xAsg at hf
  split at hf
  · rename_i d s1 h1
    simp only [Option.map_eq_some_iff] at hf
    obtain ⟨env', h2, rfl⟩ := hf
    exact ⟨W, env, sto, d, s1, R, h1, fun W' H' v le R' r => tgT h2 r R' fun σ' R2 => k W' H' le σ' R2⟩
  · cases hf
/-! ### fields -/
theorem xSet_some {fl : Nat → Str → Bool} {own : Bool} {x : Str} {env : Env} {s : Sto} {o : Out} (h : xSet fl own fa x fb env s = some o) : ∃ d s1 n s2 c fs, fb env s = some (d, s1) ∧ fa env s1 = some (.obj n, s2) ∧ s2[n]? = some (.ins c fs) ∧ fl c x = true ∧ fs.length < 900 ∧ (own = true → d.isLD = true) ∧
    o = .nx env (s2.set n (.ins c (setFd x (if own then .own d else .val d) fs))) := by
  unfold xSet at h
  split at h
  · rename_i d s1 h1
    split at h
    · rename_i n s2 h2
      split at h
      · rename_i c fs h3
        split at h
        · rename_i h4
          simp only [Bool.and_eq_true, decide_eq_true_eq, Bool.or_eq_true, Bool.not_eq_true'] at h4
          cases h
          refine ⟨d, s1, n, s2, c, fs, h1, h2, h3, h4.1.1, h4.1.2, fun e => ?_, rfl⟩
          rcases h4.2 with z | z
          · rw [e] at z; cases z
          · exact z
        · cases h
      · cases h
    · cases h
  · cases h
theorem small900 {n : Nat} (h : n < 900) : n < 1000 := by omega
theorem vs_fset {fl : Nat → Str → Bool} {x : Str} {pos' : Pos} (CH : ClsH X.K cl fl) (ha : PEv X cl .s a fa) (hv : PEv X cl .s b fb) (hs : swapsWith b (some (.Attribute a x pos')) pos.line X.env = pure false) : PSv X cl ro (.Assign [.Attribute a x pos'] b pos) (xSet fl false fa x fb) := PS.imp (ps_fld ha hv hs) fun Dn σ H => by
  rintro ⟨W, env, sto, o, R, hf, k⟩
  obtain ⟨d, s1, n, s2, c, fs, h1, h2, h3, h4, h5, h6, rfl⟩ := xSet_some hf
  refine ⟨W, env, sto, d, s1, R, h1, fun W1 H1 v le1 R1 r1 => ?_⟩
  refine ⟨W1, env, s1, _, s2, R1, h2, fun W2 H2 u le2 R2 r2 => ?_⟩
  obtain ⟨q, rfl, hq, C, dx, vs, q1, q2, q3⟩ := obj_at R2.s r2 h3
  refine ⟨q, C, dx, vs, rfl, q1, CH.cls c C q2, CH.no c C x q2 h4, ?_, ?_⟩
  · rw [← paired_length q3]
    exact small900 h5
  · exact k W2 _ (le1.trans le2) σ (rel_set R2 hq h3 q1 q2 q3 True.intro (rep_mono le2.le _ _ r1) fun _ _ e => by cases e)
/-- a field takes a new container. the object is a name -/
theorem vs_fown {fl : Nat → Str → Bool} {x : Str} {pos' : Pos} {i : Nat} (CH : ClsH X.K cl fl) (ha : PE X a (tVar i)) (hv : PEv X cl .n b fb) (hs : swapsWith b (some (.Attribute a x pos')) pos.line X.env = pure false) : PSv X cl ro (.Assign [.Attribute a x pos'] b pos) (xSet fl true (fVar i) x fb) := PS.imp (ps_fld ha hv hs) fun Dn σ H => by
  rintro ⟨W, env, sto, o, R, hf, k⟩
  obtain ⟨d, s1, n, s2, c, fs, h1, h2, h3, h4, h5, h6, rfl⟩ := xSet_some hf
  have z := st_var _ _ _ _ h2
  subst z
  refine ⟨W, env, sto, d, s2, R, h1, fun W1 H1 v le1 R1 r1 => ?_⟩
  have h2' : env[i]? = some (some (.val (.obj n))) := by
    unfold fVar at h2
    split at h2
    · rename_i d0 e1
      simp only [Option.some.injEq, Prod.mk.injEq] at h2
      rw [← h2.1]
      exact e1
    · cases h2
  obtain ⟨u, u1, u2⟩ := R1.e.cell i _ h2'
  refine ⟨u, u1, ?_⟩
  obtain ⟨q, rfl, hq, C, dx, vs, q1, q2, q3⟩ := obj_at R1.s u2 h3
  refine ⟨q, C, dx, vs, rfl, q1, CH.cls c C q2, CH.no c C x q2 h4, ?_, ?_⟩
  · rw [← paired_length q3]
    exact small900 h5
  · have hl := h6 rfl
    rcases r1 with ⟨r1, hn⟩ | ⟨p, o, rfl, g1, g2, g3⟩
    · cases d <;> first | exact absurd hl Bool.false_ne_true | cases hn
    · exact k W1 _ le1 σ (rel_set (nc := .own d) R1 hq h3 q1 q2 q3 True.intro ⟨p, o, rfl, g1, make_cont g2 hl, g3.F, g3.P⟩ fun _ _ _ e => by cases e; exact g3)
end
end PI
/-! methods of lists, in their places -/
namespace PI
open PySem L2
section
variable {K : PySem.W.Frag} {w : World} {cl : Nat → Option Addr} {W : Wd} {env : Env} {sto : Sto} {σ : St} {H : Hp}
theorem reps_erase : ∀ {ds : List D} {vs : List V} (n : Nat), Reps K w W ds vs → Reps K w W (ds.eraseIdx n) (vs.eraseIdx n)
  | [], vs, n, h => by
    unfold Reps at h
    subst h
    simp [Reps]
  | d :: ds, vs, 0, h => by
    unfold Reps at h
    obtain ⟨v, r, rfl, h1, h2⟩ := h
    exact h2
  | d :: ds, vs, n + 1, h => by
    unfold Reps at h
    obtain ⟨v, r, rfl, h1, h2⟩ := h
    simp only [List.eraseIdx_cons_succ]
    unfold Reps
    exact ⟨v, _, rfl, h1, reps_erase n h2⟩
theorem reps_dropLast {ds : List D} {vs : List V} (h : Reps K w W ds vs) : Reps K w W ds.dropLast vs.dropLast := by
  rw [List.dropLast_eq_take, List.dropLast_eq_take, reps_length h]
  exact reps_take _ h
theorem reps_one {d : D} {v : V} (h : Rep K w W d v) : Reps K w W [d] [v] := by unfold Reps Reps; exact ⟨v, [], rfl, h, rfl⟩
theorem reps_set : ∀ {ds : List D} {vs : List V} {d : D} {v : V} (n : Nat), Reps K w W ds vs → Rep K w W d v → Reps K w W (ds.set n d) (vs.set n v)
  | [], vs, d, v, n, h, _ => by
    unfold Reps at h
    subst h
    simp [Reps]
  | e :: ds, vs, d, v, 0, h, q => by
    unfold Reps at h
    obtain ⟨u, r, rfl, h1, h2⟩ := h
    simp only [List.set_cons_zero]
    unfold Reps
    exact ⟨v, r, rfl, q, h2⟩
  | e :: ds, vs, d, v, n + 1, h, q => by
    unfold Reps at h
    obtain ⟨u, r, rfl, h1, h2⟩ := h
    simp only [List.set_cons_succ]
    unfold Reps
    exact ⟨u, _, rfl, h1, reps_set n h2 q⟩
def rIns : V → List V → Hp → VK → Prop := fun x vs H Q => ∃ (l : Addr) (xs : List V) (i : Int) (y : V), x = .ref l ∧ vs = [.int i, y] ∧ H l = some (.lst xs) ∧ xs.length < sizeLine ∧ 0 ≤ i ∧ i < 2 ^ 63 ∧
    Q .non (upd H l (.lst (xs.take i.toNat ++ [y] ++ xs.drop i.toNat)))
def rFM (m : FM) : V → List V → Hp → VK → Prop := match m with
  | .append => rAppend
  | .pop0 => rPop
  | .popAt => rPopAt
  | .insert => rIns
theorem ixOf_lt {n j : Nat} {i : Int} (h : ixOf n i = some j) : j < n := by
  unfold ixOf at h
  split at h
  · split at h
    · cases h; omega
    · cases h
  · split at h
    · cases h; omega
    · cases h
theorem seq_ix {n j : Nat} {i : Int} (h : ixOf n i = some j) : seqIndex? i n = some j := by
  unfold ixOf at h
  unfold seqIndex?
  by_cases h0 : 0 ≤ i
  · rw [if_pos h0] at h
    split at h
    · rename_i h1
      rw [if_neg (show ¬ i < 0 by omega)]
      simp only [h0, decide_true, Bool.true_and, h1, if_true]
      exact h
    · cases h
  · rw [if_neg h0] at h
    split at h
    · rename_i h1
      rw [if_pos (show i < 0 by omega)]
      have e1 : 0 ≤ i + (n : Int) := by omega
      have e2 : i + (n : Int) < (n : Int) := by omega
      simp only [e1, e2, decide_true, Bool.true_and, if_true]
      exact h
    · cases h
theorem reps2 {d e : D} {vs : List V} (h : Reps K w W [d, e] vs) : ∃ v u, vs = [v, u] ∧ Rep K w W d v ∧ Rep K w W e u := by
  unfold Reps at h
  obtain ⟨v, r, rfl, h1, h2⟩ := h
  unfold Reps at h2
  obtain ⟨u, r, rfl, h3, h4⟩ := h2
  unfold Reps at h4
  subst h4
  exact ⟨v, u, rfl, h1, h3⟩
theorem reps1 {d : D} {vs : List V} (h : Reps K w W [d] vs) : ∃ v, vs = [v] ∧ Rep K w W d v := by
  unfold Reps at h
  obtain ⟨v, r, rfl, h1, h2⟩ := h
  unfold Reps at h2
  subst h2
  exact ⟨v, rfl, h1⟩
theorem fm_ok {m : FM} {ys ys' ds : List D} {r : D} {p : Addr} {xs vs : List V} {Q : VK} (hp : H p = some (.lst xs)) (ry : Reps K w W ys xs) (rd : Reps K w W ds vs) (h : dFm m ys ds = some (r, ys')) (k : ∀ v xs', Rep K w W r v → Reps K w W ys' xs' → Q v (upd H p (.lst xs'))) : rFM m (.ref p) vs H Q := by
  unfold dFm at h
  split at h
  · rename_i d
    split at h
    · rename_i hl
      cases h
      obtain ⟨v, rfl, rv⟩ := reps1 rd
      exact ⟨p, xs, v, rfl, rfl, hp, by rw [reps_length ry]; exact lt_line hl, k .non _ (by simp [Rep]) (reps_append ry (reps_one rv))⟩
    · cases h
  · split at h
    · rename_i y hy
      cases h
      unfold Reps at rd
      subst rd
      obtain ⟨v, h1, h2⟩ := reps_get ry hy
      exact ⟨p, xs, v, rfl, rfl, hp, by rw [reps_length ry]; exact h1, k v _ h2 (reps_dropLast ry)⟩
    · cases h
  · rename_i i
    split at h
    · rename_i hok
      split at h
      · rename_i j hj
        split at h
        · rename_i y hy
          cases h
          obtain ⟨v, rfl, rv⟩ := reps1 rd
          unfold Rep at rv
          subst rv
          obtain ⟨v, h1, h2⟩ := reps_get ry hy
          have hok := okR_iff hok
          exact ⟨p, xs, i, j, v, rfl, rfl, hp, by omega, by omega, by rw [reps_length ry]; exact seq_ix hj, h1, k v _ h2 (reps_erase j ry)⟩
        · cases h
      · cases h
    · cases h
  · rename_i i d
    split at h
    · rename_i hl
      cases h
      obtain ⟨v, u, rfl, rv, ru⟩ := reps2 rd
      unfold Rep at rv
      subst rv
      obtain ⟨rfl, hl⟩ := hl
      refine ⟨p, xs, 0, u, rfl, rfl, hp, by rw [reps_length ry]; exact lt_line hl, by omega, by omega, k .non _ (by simp [Rep]) ?_⟩
      show Reps K w W (d :: ys) (u :: xs)
      unfold Reps
      exact ⟨u, xs, rfl, ru, ry⟩
    · cases h
  · cases h
end
section
variable {X : Cx} {cl : Nat → Option Addr} {ro : Bool} {e a b c o E : Expr} {es : List Expr} {f g h fa fb fc : Fe} {pos p : Pos} {G : Fl} {m : FM}
/-- E calls the method m of o with es -/
def Mono (t : TE) : Prop := ∀ σ H (Q Q' : VK), (∀ v H', Q v H' → Q' v H') → t σ H Q → t σ H Q'
theorem mono_var {i : Nat} : Mono (tVar i) := fun σ H Q Q' k ⟨v, h, q⟩ => ⟨v, h, k _ _ q⟩
theorem mono_E {K : PySem.W.Frag} {w : World} {md : Md} {f : Fe} : Mono (tE K w cl md f) := fun σ H Q Q' k => by
  rintro ⟨W, env, sto, d, sto', R, hf, q⟩
  exact ⟨W, env, sto, d, sto', R, hf, fun W' H' v le R' r => k _ _ (q W' H' v le R' r)⟩
theorem mono_fld {K : PySem.W.Frag} {ta : TE} {f : Str} (h : Mono ta) : Mono (tFld K ta f) := fun σ H Q Q' k q => h σ H _ _ (fun v H' ⟨a, C, dx, fs, u, h1, h2, h3, h4, h5, q⟩ => ⟨a, C, dx, fs, u, h1, h2, h3, h4, h5, k _ _ q⟩) q
def FmH (X : Cx) (cl : Nat → Option Addr) (m : FM) (E o : Expr) (G : Fl) : Prop := ∀ {to : TE}, Mono to → PE X o to → PE X E (tBM X.K "list" (rFM m) to (tA X.K X.w cl G))
theorem bm_few {e : Expr} {es : List Expr} {env : PySem.Env} {pos : Pos} (h : (e :: es).all plainE = true) (hl : (e :: es).length < 30) : ((backTo pos (starEach (e :: es) env)).all (fun x => !x.1) && (backToKw pos (keywordEach [] env)).all (fun x => x.1.isSome)
      && decide ((e :: es).length + ([] : List Keyword).length + (if ([] : List Keyword).isEmpty then 0 else 1) < 30)) = true := few_ok h hl
theorem fm_append {apos : Pos} (ha : PAv X cl [e] G) (hb : baseE o = true) (hp : plainE e = true) (hline : (apos.endLine == pos.line) = true) : FmH X cl .append (.Call (.Attribute o "append" apos) [e] [] pos) o G := fun _ ho =>
  pe_bm PySem.F.plainAttrs_list PySem.F.slot_list_append PySem.F.type_list_append mt_append ho ha (base_ok hb) (few_ok (by simp [hp]) (by simp)) hline (star_cons hp) rfl
theorem fm_popAt {apos : Pos} (ha : PAv X cl [e] G) (hb : baseE o = true) (hp : plainE e = true) (hline : (apos.endLine == pos.line) = true) : FmH X cl .popAt (.Call (.Attribute o "pop" apos) [e] [] pos) o G := fun _ ho =>
  pe_bm PySem.F.plainAttrs_list PySem.F.slot_list_pop PySem.F.type_list_pop mt_popAt ho ha (base_ok hb) (few_ok (by simp [hp]) (by simp)) hline (star_cons hp) rfl
theorem fm_insert {apos : Pos} (ha : PAv X cl [e, a] G) (hb : baseE o = true) (hp : plainE e = true) (hp2 : plainE a = true) (hline : (apos.endLine == pos.line) = true) : FmH X cl .insert (.Call (.Attribute o "insert" apos) [e, a] [] pos) o G := fun _ ho =>
  pe_bm PySem.F.plainAttrs_list PySem.F.slot_list_insert PySem.F.type_list_insert mt_insert ho ha (base_ok hb) (few_ok (by simp [hp, hp2]) (by simp)) hline (star_cons hp) (star_any (by simp [hp2]))
theorem fm_pop0 {apos : Pos} (hb : baseE o = true) (hline : (apos.endLine == pos.line) = true) : FmH X cl .pop0 (.Call (.Attribute o "pop" apos) [] [] pos) o fNil := fun mo ho => by
  refine PE.imp (pe_bm0 PySem.F.plainAttrs_list PySem.F.slot_list_pop PySem.F.type_list_pop mt_pop ho (base_ok hb) hline) fun σ H Q q => ?_
  refine mo σ H _ _ (fun v H' z => ⟨z.1, ?_⟩) q
  obtain ⟨W, env, sto, ds, sto', R, hf, k⟩ := z.2
  cases hf
  exact k W H' [] (.refl _) R (by simp [Reps])
/-! ### of a name -/
theorem xSm_some {t : Option Nat} {i : Nat} {env : Env} {s : Sto} {out : Out} (h : xSm t m i G env s = some out) : ∃ ds s1 ys r ys', G env s = some (ds, s1) ∧ env[i]? = some (some (.own (.lst ys))) ∧ dFm m ys ds = some (r, ys') ∧
    out = .nx (setT t r (env.set i (some (.own (.lst ys'))))) s1 := by
  unfold xSm at h
  split at h
  · rename_i ds s1 h1
    split at h
    · rename_i ys h2
      split at h
      · rename_i r ys' h3
        cases h
        exact ⟨ds, s1, ys, r, ys', h1, h2, h3, rfl⟩
      · cases h
    · cases h
  · cases h
theorem main_sm {t : Option Nat} {i : Nat} {K : PySem.W.Frag} {w : World} {W : Wd} {env : Env} {sto : Sto} {σ : St} {H : Hp} {out : Out} {Q : VK} (R : Rel K w cl W env sto σ H) (h : xSm t m i G env sto = some out)
    (k : ∀ W' H' r v e1 s1, W.Ext W' → Rel K w cl W' e1 s1 σ H' → Rep K w W' r v → out = .nx (setT t r e1) s1 → Q v H') : tBM K "list" (rFM m) (tVar i) (tA K w cl G) σ H Q := by
  obtain ⟨ds, s1, ys, r, ys', h1, h2, h3, rfl⟩ := xSm_some h
  obtain ⟨v, q1, p, o, rfl, hp, ⟨vs, rfl, hr⟩, pF, pP⟩ := R.e.cell i _ h2
  refine ⟨_, q1, .inl ⟨rfl, vs, SqL.of hp⟩, W, env, sto, ds, s1, R, h1, fun W1 H1 us le1 R1 r1 => ?_⟩
  obtain ⟨v, q1', p', o, e, hp, ⟨vs, rfl, hr⟩, pF, pP⟩ := R1.e.cell i _ h2
  rw [q1] at q1'
  cases q1'
  cases e
  refine fm_ok hp hr r1 h3 fun u xs' ru rx => ?_
  exact k W1 _ r u _ s1 le1 (rel_slot (d' := .lst ys') R1 h2 q1 ⟨xs', rfl, rx⟩) ru rfl
theorem vs_sm {i : Nat} (hm : FmH X cl m E o G) (ho : PE X o (tVar i)) (hs : swapsWith E none pos.line X.env = pure false) : PSv X cl ro (.Expr E pos) (xSm none m i G) := PS.imp (ps_expr (hm mono_var ho) hs) fun Dn σ H => by
  rintro ⟨W, env, sto, out, R, hf, k⟩
  refine main_sm R hf fun W' H' r v e1 s1 le R' rr eo => ?_
  subst eo
  exact k W' H' le σ R'
theorem vs_smA {i j : Nat} {tg : Expr} (hm : FmH X cl m E o G) (ho : PE X o (tVar i)) (H0 : ∀ {te : TE}, PE X E te → PS X (.Assign [tg] E pos) (tAsg te (gName j))) : PSv X cl ro (.Assign [tg] E pos) (xSm (some j) m i G) := PS.imp (H0 (hm mono_var ho)) fun Dn σ H => by
  rintro ⟨W, env, sto, out, R, hf, k⟩
  refine main_sm R hf fun W' H' r v e1 s1 le R' rr eo => ?_
  subst eo
  exact k W' H' le _ (rel_val R' rr)
/-! ### x[k] = e -/
theorem vs_lput {i : Nat} {x : Expr} {sp : Pos} (hv : PEv X cl .s a fa) (hk : PEv X cl .s b fb) (H0 : ∀ {te ti : TE}, PE X a te → PE X b ti → PS X (.Assign [.Subscript x b sp] a pos) (tAsg te (gSub (tVar i) ti rSetL))) : PSv X cl ro (.Assign [.Subscript x b sp] a pos) (xLput i fb fa) := PS.imp (H0 hv hk) fun Dn σ H => by
  rintro ⟨W, env, sto, out, R, hf, k⟩
  unfold xLput at hf
  split at hf
  · rename_i d s1 h1
    split at hf
    · rename_i j s2 h2
      split at hf
      · rename_i ys h3
        split at hf
        · rename_i n h4
          cases hf
          refine ⟨W, env, sto, d, s1, R, h1, fun W1 H1 v le1 R1 r1 => ?_⟩
          obtain ⟨u, q1, p, o, rfl, hp, ⟨vs, rfl, hr⟩, pF, pP⟩ := R1.e.cell i _ h3
          refine ⟨_, q1, W1, env, s1, _, s2, R1, h2, fun W2 H2 z le2 R2 r2 => ?_⟩
          unfold Res Rep at r2
          obtain ⟨u, q1', p', o, e, hp, ⟨vs, rfl, hr⟩, pF, pP⟩ := R2.e.cell i _ h3
          rw [q1] at q1'
          cases q1'
          cases e
          refine ⟨p, vs, j, n, rfl, r2, hp, by rw [reps_length hr]; exact h4, ?_⟩
          exact k W2 _ (le1.trans le2) σ (rel_slot R2 h3 q1 ⟨_, rfl, reps_set n hr (rep_mono le2.le _ _ r1)⟩)
        · cases hf
      · cases hf
    · cases hf
  · cases hf
/-! ### of a field -/
/-- objects stand as they did -/
def KpI (H H' : Hp) : Prop := ∀ a C dx vs, H a = some (.ins C dx vs) → H' a = some (.ins C dx vs)
theorem KpI.of {H H' : Hp} (h : Same H H') : KpI H H' := fun a C dx vs e => h _ _ e
theorem KpI.trans {A B C : Hp} (h : KpI A B) (h' : KpI B C) : KpI A C := fun a c dx vs e => h' _ _ _ _ (h _ _ _ _ e)
def tEk (K : PySem.W.Frag) (w : World) (cl : Nat → Option Addr) (f : Fe) : TE := fun σ H Q => ∃ W env sto d sto', Rel K w cl W env sto σ H ∧ f env sto = some (d, sto') ∧
  ∀ W' H' v, W.Ext W' → KpI H H' → Rel K w cl W' env sto' σ H' → Rep K w W' d v → Q v H'
def tAk (K : PySem.W.Frag) (w : World) (cl : Nat → Option Addr) (f : Fl) : TA := fun σ H Q => ∃ W env sto d sto', Rel K w cl W env sto σ H ∧ f env sto = some (d, sto') ∧
  ∀ W' H' v, W.Ext W' → KpI H H' → Rel K w cl W' env sto' σ H' → Reps K w W' d v → Q v H'
abbrev PEk (X : Cx) (cl : Nat → Option Addr) (e : Expr) (f : Fe) : Prop := PE X e (tEk X.K X.w cl f)
abbrev PAk (X : Cx) (cl : Nat → Option Addr) (es : List Expr) (f : Fl) : Prop := PA X es (tAk X.K X.w cl f)
theorem pv_k (h : PEk X cl e f) : PEv X cl .s e f := PE.imp h fun σ H Q => by
  rintro ⟨W, env, sto, d, sto', R, hf, k⟩
  exact ⟨W, env, sto, d, sto', R, hf, fun W' H' v le _ R' r => k W' H' v le R' r⟩
theorem pk_p (hs : ∀ env sto d s', f env sto = some (d, s') → s' = sto) (h : PEp X cl e f) : PEk X cl e f := PE.imp h fun σ H Q => by
  rintro ⟨W, env, sto, d, sto', R, hf, k⟩
  have e := hs _ _ _ _ hf
  subst e
  exact ⟨W, env, sto', d, R, hf, fun W' H' v le sm R' r => k W' H' v le (.of sm) R' r⟩
theorem pak_nil : PAk X cl [] fNil := PA.imp pa_nil fun σ H Q => by
  rintro ⟨W, env, sto, ds, sto', R, hf, k⟩
  cases hf
  exact k W H [] (.refl _) (.of (.refl _)) R (by simp [Reps])
theorem pak_cons (ha : PEk X cl a fa) (hr : PAk X cl es G) (hs : plainE a = true) : PAk X cl (a :: es) (fCons fa G) := PA.imp (pa_cons ha hr (star_cons hs)) fun σ H Q => by
  rintro ⟨W, env, sto, ds, sto', R, hf, k⟩
  obtain ⟨d, s1, r, e1, e2, rfl⟩ := fCons_some hf
  refine ⟨W, env, sto, d, s1, R, e1, fun W1 H1 v le1 k1 R1 r1 => ?_⟩
  refine ⟨W1, env, s1, r, sto', R1, e2, fun W2 H2 vs le2 k2 R2 r2 => ?_⟩
  exact k W2 H2 (v :: vs) (le1.trans le2) (k1.trans k2) R2 (by unfold Reps; exact ⟨v, vs, rfl, rep_mono le2.le _ _ r1, r2⟩)
/-- the same, with arguments that keep -/
def FmK (X : Cx) (cl : Nat → Option Addr) (m : FM) (E o : Expr) (G : Fl) : Prop := ∀ {to : TE}, Mono to → PE X o to → PE X E (tBM X.K "list" (rFM m) to (tAk X.K X.w cl G))
theorem fk_append {apos : Pos} (ha : PAk X cl [e] G) (hb : baseE o = true) (hp : plainE e = true) (hline : (apos.endLine == pos.line) = true) : FmK X cl .append (.Call (.Attribute o "append" apos) [e] [] pos) o G := fun _ ho =>
  pe_bm PySem.F.plainAttrs_list PySem.F.slot_list_append PySem.F.type_list_append mt_append ho ha (base_ok hb) (few_ok (by simp [hp]) (by simp)) hline (star_cons hp) rfl
theorem fk_popAt {apos : Pos} (ha : PAk X cl [e] G) (hb : baseE o = true) (hp : plainE e = true) (hline : (apos.endLine == pos.line) = true) : FmK X cl .popAt (.Call (.Attribute o "pop" apos) [e] [] pos) o G := fun _ ho =>
  pe_bm PySem.F.plainAttrs_list PySem.F.slot_list_pop PySem.F.type_list_pop mt_popAt ho ha (base_ok hb) (few_ok (by simp [hp]) (by simp)) hline (star_cons hp) rfl
theorem fk_insert {apos : Pos} (ha : PAk X cl [e, a] G) (hb : baseE o = true) (hp : plainE e = true) (hp2 : plainE a = true) (hline : (apos.endLine == pos.line) = true) : FmK X cl .insert (.Call (.Attribute o "insert" apos) [e, a] [] pos) o G := fun _ ho =>
  pe_bm PySem.F.plainAttrs_list PySem.F.slot_list_insert PySem.F.type_list_insert mt_insert ho ha (base_ok hb) (few_ok (by simp [hp, hp2]) (by simp)) hline (star_cons hp) (star_any (by simp [hp2]))
theorem fk_pop0 {apos : Pos} (hb : baseE o = true) (hline : (apos.endLine == pos.line) = true) : FmK X cl .pop0 (.Call (.Attribute o "pop" apos) [] [] pos) o fNil := fun mo ho => by
  refine PE.imp (pe_bm0 PySem.F.plainAttrs_list PySem.F.slot_list_pop PySem.F.type_list_pop mt_pop ho (base_ok hb) hline) fun σ H Q q => ?_
  refine mo σ H _ _ (fun v H' z => ⟨z.1, ?_⟩) q
  obtain ⟨W, env, sto, ds, sto', R, hf, k⟩ := z.2
  cases hf
  exact k W H' [] (.refl _) (.of (.refl _)) R (by simp [Reps])
theorem fFm_some {fl : Nat → Str → Bool} {x : Str} {env : Env} {s s' : Sto} {d : D} (h : fFm fl m fa x G env s = some (d, s')) : ∃ n s1 c fs ys0 ds s2 c' fs' ys ys', fa env s = some (.obj n, s1) ∧ s1[n]? = some (.ins c fs) ∧ fl c x = true ∧ fs.lookup x = some (.own (.lst ys0)) ∧
    G env s1 = some (ds, s2) ∧ s2[n]? = some (.ins c' fs') ∧ fs'.lookup x = some (.own (.lst ys)) ∧ dFm m ys ds = some (d, ys') ∧ s' = s2.set n (.ins c' (setFd x (.own (.lst ys')) fs')) := by
  unfold fFm at h
  split at h
  · rename_i n s1 h1
    split at h
    · rename_i c fs h2
      split at h
      · rename_i h3
        split at h
        · rename_i ys0 h4
          split at h
          · rename_i ds s2 h5
            split at h
            · rename_i c' fs' h6
              split at h
              · rename_i ys h7
                split at h
                · rename_i r ys' h8
                  cases h
                  exact ⟨n, s1, c, fs, ys0, ds, s2, c', fs', ys, ys', h1, h2, h3, h4, h5, h6, h7, h8, rfl⟩
                · cases h
              · cases h
            · cases h
          · cases h
        · cases h
      · cases h
    · cases h
  · cases h
theorem pk_fm {fl : Nat → Str → Bool} {x : Str} {ap : Pos} (CH : ClsH X.K cl fl) (ha : PEp X cl a fa) (hs : ∀ env sto d s', fa env sto = some (d, s') → s' = sto) (hb : baseE a = true) (hm : FmK X cl m E (.Attribute a x ap) G) : PEk X cl E (fFm fl m fa x G) := by
  have mo : Mono (tP X.K X.w cl fa) := fun σ H Q Q' k => by
    rintro ⟨W, env, sto, d, R, hf, q⟩
    exact ⟨W, env, sto, d, R, hf, fun W' H' v le sm R' r => k _ _ (q W' H' v le sm R' r)⟩
  refine PE.imp (hm (mono_fld mo) (pe_fld ha (base_ok hb))) fun σ H Q => ?_
  rintro ⟨W, env, sto, d, sto', R, hf, k⟩
  obtain ⟨n, s1, c, fs, ys0, ds, s2, c', fs', ys, ys', h1, h2, h3, h4, h5, h6, h7, h8, rfl⟩ := fFm_some hf
  have z := hs _ _ _ _ h1
  subst z
  refine ⟨W, env, s1, _, R, h1, fun W1 H1 v le1 sm R1 r1 => ?_⟩
  obtain ⟨q, rfl, hq, C, dx, vs, q1, q2, q3⟩ := obj_at R1.s r1 h2
  rcases paired_lookup (G := fun c v => c.nl ∧ CellR X.K X.w W1 H1 c v) (paired_imp (fun _ _ z => z) q3) x with ⟨z, _⟩ | ⟨c1, v1, z1, z2, z3⟩
  · rw [z] at h4; cases h4
  rw [h4] at z1
  cases z1
  obtain ⟨_, p, o, rfl, hp, ⟨ws, rfl, hr⟩, pF, pP⟩ := z3
  refine ⟨q, C, dx, vs, _, rfl, q1, CH.cls c C q2, CH.no c C x q2 h3, z2, .inl ⟨rfl, ws, SqL.of hp⟩, ?_⟩
  refine ⟨W1, env, s1, ds, s2, R1, h5, fun W2 H2 us le2 kp R2 r2 => ?_⟩
  have hq2 := le2.le.2 _ _ hq
  obtain ⟨C', dx', vs', g1, g2, g3⟩ := R2.s.ob n _ q h6 hq2
  have g1' := kp _ _ _ _ q1
  rw [g1] at g1'
  cases g1'
  rcases paired_lookup (G := fun c v => c.nl ∧ CellR X.K X.w W2 H2 c v) (paired_imp (fun _ _ z => z) g3) x with ⟨z, _⟩ | ⟨c1, v1, y1, y2, y3⟩
  · rw [z] at h7; cases h7
  rw [h7] at y1
  cases y1
  rw [z2] at y2
  cases y2
  obtain ⟨_, p', o, e, hp2, ⟨ws2, rfl, hr2⟩, pF2, pP2⟩ := y3
  cases e
  refine fm_ok hp2 hr2 r2 h8 fun u xs' ru rx => ?_
  refine k W2 _ u (le1.trans le2) ((KpI.of sm).trans (kp.trans fun b C0 dx0 vs0 e0 => ?_)) (rel_inplace R2 hq2 h6 g1 g2 g3 h7 z2 ⟨xs', rfl, rx⟩) ru
  rw [upd_ne]
  · exact e0
  · intro z
    rw [z, hp2] at e0
    cases e0
end
end PI
/-! loops; defs -/
namespace PI
open PySem L2
section
variable (K : PySem.W.Frag) (w : World) (cl : Nat → Option Addr)
/-- what the iterator J yields: ds, item by item, as long as W stands -/
def ItOk (J : It) (W : Wd) (ds : List D) : Prop := ∀ (i : Nat) (W' : Wd) (env : Env) (sto : Sto) (σ : St) (H : Hp), W.Ext W' → Rel K w cl W' env sto σ H →
  (ds.length ≤ i → J.stop i H) ∧ ∀ d, ds[i]? = some d → J.go i H ∧ ∀ x H2, J.yld i H x H2 → Same H H2 ∧ ∃ W2, W'.Ext W2 ∧ Rel K w cl W2 env sto σ H2 ∧ Rep K w W2 d x
def tI (fi : Fi) : TI := fun σ H R => ∃ W env sto ds sto', Rel K w cl W env sto σ H ∧ fi env sto = some (ds, sto') ∧
  ∀ W' H' J, W.Ext W' → Rel K w cl W' env sto' σ H' → ItOk K w cl J W' ds → R J H'
/-- how a target takes a datum -/
def TgR (t : Tg) (g : TG) : Prop := ∀ {W : Wd} {H : Hp} {sto : Sto} {d : D} {v : V} {env env' : Env} {σ : St} {Q : St → Hp → Prop}, tgSet t d env = some env' → Rep K w W d v → Rel K w cl W env sto σ H → (∀ σ', Rel K w cl W env' sto σ' H → Q σ' H) → g v σ H Q
end
abbrev PIv (X : Cx) (cl : Nat → Option Addr) (tg iter : Expr) (fi : Fi) : Prop := PI X tg iter (tI X.K X.w cl fi)
theorem PI.imp {X : Cx} {tg iter : Expr} {t t' : TI} (h : PI X tg iter t) (i : ∀ σ H R, t' σ H R → t σ H R) : PI X tg iter t' := ⟨fun pins s σ H R I q => h.run pins s σ H R I (i σ H R q)⟩
section
variable {K : PySem.W.Frag} {w : World} {cl : Nat → Option Addr}
theorem tg_n {i : Nat} : TgR K w cl (.n i) (gName i) := fun {W H sto d v env env' σ Q} h r R k => by
  simp only [tgSet, Option.some.injEq] at h
  subst h
  exact k _ (rel_val R r)
theorem tg_t {is : List Nat} : TgR K w cl (.t is) (gTup K is.length (gNames is)) := fun {W H sto d v env env' σ Q} h r R k => tgT h r R k
theorem it_list {W : Wd} {ds : List D} {a : Addr} {vs : List V} (h : W.F a = some (.lst vs)) (r : Reps K w W ds vs) : ItOk K w cl (Itl K a) W ds := fun i W' env sto σ H le R => by
  have h1 : SqL K H a vs := SqL.of (R.s.subF _ _ (le.le.1 _ _ h)).lst
  refine ⟨fun hl => ⟨vs, h1, by rw [reps_length r]; exact hl⟩, fun d hd => ?_⟩
  obtain ⟨v, q1, q2⟩ := reps_get r hd
  refine ⟨⟨vs, v, h1, q1⟩, fun x H2 y => ?_⟩
  obtain ⟨rfl, y⟩ := y
  have e := y vs h1
  rw [q1] at e
  cases e
  exact ⟨.refl _, W', .refl _, R, rep_mono le.le _ _ q2⟩
theorem it_listP {W : Wd} {ds : List D} {a : Addr} {vs : List V} (h : W.P a = some (.lst vs)) (r : Reps K w W ds vs) : ItOk K w cl (Itl K a) W ds := fun i W' env sto σ H le R => by
  have h1 : SqL K H a vs := SqL.of (R.s.subP _ _ (by rw [le.P]; exact h))
  refine ⟨fun hl => ⟨vs, h1, by rw [reps_length r]; exact hl⟩, fun d hd => ?_⟩
  obtain ⟨v, q1, q2⟩ := reps_get r hd
  refine ⟨⟨vs, v, h1, q1⟩, fun x H2 y => ?_⟩
  obtain ⟨rfl, y⟩ := y
  have e := y vs h1
  rw [q1] at e
  cases e
  exact ⟨.refl _, W', .refl _, R, rep_mono le.le _ _ q2⟩
theorem it_tup {W : Wd} {ds : List D} {a : Addr} {vs : List V} (h : SqT K W.F a vs) (r : Reps K w W ds vs) : ItOk K w cl (Itt K a) W ds := fun i W' env sto σ H le R => by
  have h1 : SqT K H a vs := sqT_sub R.s.subF (sqT_same le.le.1 h)
  refine ⟨fun hl => ⟨vs, h1, by rw [reps_length r]; exact hl⟩, fun d hd => ?_⟩
  obtain ⟨v, q1, q2⟩ := reps_get r hd
  refine ⟨⟨vs, v, h1, q1⟩, fun x H2 y => ?_⟩
  obtain ⟨rfl, y⟩ := y
  have e := y vs h1
  rw [q1] at e
  cases e
  exact ⟨.refl _, W', .refl _, R, rep_mono le.le _ _ q2⟩
theorem it_str {W : Wd} {z : Str} : ItOk K w cl (Its z) W (strIts z) := fun i W' env sto σ H le R => by
  refine ⟨fun hl => by show z.cps.size ≤ i; simpa [strIts] using hl, fun d hd => ?_⟩
  unfold strIts at hd
  rw [List.getElem?_map] at hd
  simp only [Option.map_eq_some_iff] at hd
  obtain ⟨c, hc, rfl⟩ := hd
  have hc' : z.cps[i]? = some c := by simpa using hc
  refine ⟨(Array.getElem?_eq_some_iff.mp hc').1, fun x H2 y => ?_⟩
  obtain ⟨rfl, c', e1, rfl⟩ := y
  rw [hc'] at e1
  cases e1
  exact ⟨.refl _, W', .refl _, R, by simp [Rep]⟩
theorem it_rng {W : Wd} {lo hi : Int} : ItOk K w cl (Itr lo (hi - lo).toNat) W (rngIts lo hi) := fun i W' env sto σ H le R => by
  refine ⟨fun hl => by show (hi - lo).toNat ≤ i; simpa [rngIts] using hl, fun d hd => ?_⟩
  unfold rngIts at hd
  rw [List.getElem?_map] at hd
  simp only [Option.map_eq_some_iff] at hd
  obtain ⟨c, hc, rfl⟩ := hd
  obtain ⟨h1, h2⟩ := List.getElem?_eq_some_iff.mp hc
  simp only [List.length_range] at h1
  simp only [List.getElem_range] at h2
  subst h2
  refine ⟨h1, fun x H2 y => ?_⟩
  obtain ⟨rfl, rfl⟩ := y
  exact ⟨.refl _, W', .refl _, R, by simp [Rep]⟩
end
section
variable {X : Cx} {cl : Nat → Option Addr} {ro : Bool} {e a b c o tg : Expr} {es : List Expr} {body : List Stmt} {f g h fa fb fc : Fe} {pos p : Pos} {F : Fs} {fi : Fi} {t : Tg}
theorem pi_l (ha : PEv X cl .s a fa) : PIv X cl tg a (iL fa) := PI.imp (pi_list ha) fun σ H R => by
  rintro ⟨W, env, sto, ds, sto', Rr, hf, k⟩
  unfold iL at hf
  split at hf
  · rename_i ds' s1 h1
    cases hf
    refine ⟨W, env, sto, _, _, Rr, h1, fun W1 H1 v le1 R1 r1 => ?_⟩
    have r1 : Rep X.K X.w W1 (.lst ds) v := r1
    unfold Rep at r1
    obtain ⟨q, vs, rfl, q1, q2⟩ := r1
    exact ⟨q, rfl, ⟨vs, SqL.of (R1.s.subF _ _ q1).lst⟩, k W1 H1 _ le1 R1 (it_list q1 q2)⟩
  · cases hf
theorem pi_b {i : Nat} (ha : PE X a (tVar i)) : PIv X cl tg a (iB i) := PI.imp (pi_list ha) fun σ H R => by
  rintro ⟨W, env, sto, ds, sto', Rr, hf, k⟩
  unfold iB at hf
  split at hf
  · rename_i ds' h1
    cases hf
    obtain ⟨v, v1, r1⟩ := Rr.e.cell i _ h1
    have r1 : Rep X.K X.w W (.lst ds) v := r1
    unfold Rep at r1
    obtain ⟨q, vs, rfl, q1, q2⟩ := r1
    exact ⟨_, v1, q, rfl, ⟨vs, SqL.of (Rr.s.subF _ _ q1).lst⟩, k W H _ (.refl _) Rr (it_list q1 q2)⟩
  · rename_i ds' h1
    cases hf
    obtain ⟨v, v1, q, o, u, rfl, q1, q2, vs, rfl, q3⟩ := Rr.e.cell i _ h1
    rcases q2 with rfl | ⟨q2, _⟩
    · exact ⟨_, v1, q, rfl, ⟨vs, SqL.of (Rr.s.subP _ _ q1)⟩, k W H _ (.refl _) Rr (it_listP q1 q3)⟩
    · exact q2.elim
  · cases hf
theorem pi_t (ha : PEv X cl .s a fa) : PIv X cl tg a (iT fa) := PI.imp (pi_tup ha) fun σ H R => by
  rintro ⟨W, env, sto, ds, sto', Rr, hf, k⟩
  unfold iT at hf
  split at hf
  · rename_i ds' s1 h1
    cases hf
    refine ⟨W, env, sto, _, _, Rr, h1, fun W1 H1 v le1 R1 r1 => ?_⟩
    have r1 : Rep X.K X.w W1 (.tup ds) v := r1
    unfold Rep at r1
    obtain ⟨q, vs, rfl, q1, q2⟩ := r1
    exact ⟨q, rfl, ⟨vs, sqT_sub R1.s.subF q1⟩, k W1 H1 _ le1 R1 (it_tup q1 q2)⟩
  · cases hf
theorem pi_s (ha : PEv X cl .s a fa) : PIv X cl tg a (iS fa) := PI.imp (pi_str ha) fun σ H R => by
  rintro ⟨W, env, sto, ds, sto', Rr, hf, k⟩
  unfold iS at hf
  split at hf
  · rename_i z s1 h1
    cases hf
    refine ⟨W, env, sto, _, _, Rr, h1, fun W1 H1 v le1 R1 r1 => ?_⟩
    unfold Res Rep at r1
    exact ⟨z, r1, k W1 H1 _ le1 R1 it_str⟩
  · cases hf
theorem pi_r1 (hg : Gl X "range") (hm : X.mg "range" = none) (hp : plainE a = true) (ha : PEv X cl .s a fa) : PIv X cl tg (.Call (.Name "range" p) [a] [] pos) (iRng1 fa) := PI.imp (pi_range1 hg hm (pa_cons ha pa_nil (star_cons hp)) (star_cons hp)) fun σ H R => by
  rintro ⟨W, env, sto, ds, sto', Rr, hf, k⟩
  unfold iRng1 at hf
  split at hf
  · rename_i j s1 h1
    split at hf
    · rename_i hok
      cases hf
      refine ⟨W, env, sto, _, _, Rr, h1, fun W1 H1 v le1 R1 r1 => ?_⟩
      unfold Res Rep at r1
      have hok := okR_iff hok
      refine ⟨j, by rw [r1], hok.1, hok.2, k W1 H1 _ le1 R1 ?_⟩
      have z := it_rng (K := X.K) (w := X.w) (cl := cl) (W := W1) (lo := 0) (hi := j)
      rw [Int.sub_zero] at z
      exact z
    · cases hf
  · cases hf
theorem pi_r2 (hg : Gl X "range") (hm : X.mg "range" = none) (hp : plainE a = true) (hp2 : plainE b = true) (ha : PEv X cl .s a fa) (hb : PEv X cl .s b fb) : PIv X cl tg (.Call (.Name "range" p) [a, b] [] pos) (iRng2 fa fb) := PI.imp (pi_range2 hg hm (pa_cons ha (pa_cons hb pa_nil (star_cons hp2)) (star_cons hp)) (by rw [star_cons hp, star_cons hp2]; rfl) (star_cons hp2)) fun σ H R => by
  rintro ⟨W, env, sto, ds, sto', Rr, hf, k⟩
  unfold iRng2 at hf
  split at hf
  · rename_i i s1 h1
    split at hf
    · rename_i j s2 h2
      split at hf
      · rename_i hok
        cases hf
        refine ⟨W, env, sto, _, _, Rr, h1, fun W1 H1 v le1 R1 r1 => ?_⟩
        refine ⟨W1, env, _, _, _, R1, h2, fun W2 H2 u le2 R2 r2 => ?_⟩
        unfold Res Rep at r1 r2
        simp only [Bool.and_eq_true] at hok
        have hok : (-(2 ^ 62) ≤ i ∧ i < 2 ^ 62) ∧ (-(2 ^ 62) ≤ j ∧ j < 2 ^ 62) := ⟨okR_iff hok.1, okR_iff hok.2⟩
        exact ⟨i, j, by rw [r1, r2], ⟨hok.1.1, hok.1.2, hok.2.1, hok.2.2⟩, k W2 H2 _ (le1.trans le2) R2 it_rng⟩
      · cases hf
    · cases hf
  · cases hf
/-! ### for -/
theorem vs_for {gT : TG} (hpo : PassesOwn (model X.prog X.w) X.A X.env X.xe) (hc : X.calm = true) (hi : PIv X cl tg a fi) (hg : PG X tg gT) (ht : TgR X.K X.w cl t gT) (hb : PSsv X cl ro body F) (hs : ∀ x, foldedSetIterable a X.env x = pure x) : PSv X cl ro (.For tg a body [] pos) (xFor t fi F) := PS.imp (ps_for hpo hc hi hg hb hs) fun Dn σ H => by
  rintro ⟨W, env, sto, out, R, hf, k⟩
  unfold xFor at hf
  split at hf
  · rename_i ds s1 h1
    refine ⟨W, env, sto, ds, s1, R, h1, fun W1 H1 J le1 R1 it => ?_⟩
    refine ⟨fun i m σ H => m = ds.length - i ∧ i ≤ ds.length ∧ ∃ W' e s, W1.Ext W' ∧ Rel X.K X.w cl W' e s σ H ∧ forL t F (ds.drop i) e s = some out, ⟨_, rfl, Nat.zero_le _, W1, env, s1, .refl _, R1, hf⟩, ?_⟩
    rintro i m σ2 H2 ⟨rfl, hi, W2, e2, s2, le2, R2, hl⟩
    obtain ⟨i1, i2⟩ := it i W2 e2 s2 σ2 H2 le2 R2
    by_cases hlt : i < ds.length
    · have hd : ds[i]? = some ds[i] := List.getElem?_eq_getElem hlt
      have hdr : ds.drop i = ds[i] :: ds.drop (i + 1) := List.drop_eq_getElem_cons hlt
      rw [hdr] at hl
      unfold forL at hl
      split at hl
      · rename_i e3 h3
        obtain ⟨go, y⟩ := i2 _ hd
        refine .inr ⟨go, fun σ' H' => ds.length - (i + 1) < ds.length - i ∧ ∃ W' e s, W1.Ext W' ∧ Rel X.K X.w cl W' e s σ' H' ∧ forL t F (ds.drop (i + 1)) e s = some out, fun σ' H' n => ⟨_, n.1, rfl, hlt, n.2⟩, fun x H3 yl => ?_⟩
        obtain ⟨_, W3, le3, R3, r3⟩ := y x H3 yl
        refine ht h3 r3 R3 fun σ4 R4 => ?_
        have hm : ds.length - (i + 1) < ds.length - i := by omega
        split at hl
        · rename_i e5 s5 h5
          exact ⟨W3, e3, s2, _, R4, h5, fun W6 H6 le6 σ6 R6 => ⟨hm, W6, e5, s5, (le2.trans le3).trans le6, R6, hl⟩⟩
        · rename_i e5 s5 h5
          exact ⟨W3, e3, s2, _, R4, h5, fun W6 H6 le6 σ6 R6 => ⟨hm, W6, e5, s5, (le2.trans le3).trans le6, R6, hl⟩⟩
        · rename_i e5 s5 h5
          cases hl
          exact ⟨W3, e3, s2, _, R4, h5, fun W6 H6 le6 σ6 R6 => k W6 H6 (((le1.trans le2).trans le3).trans le6) σ6 R6⟩
        · rename_i d5 s5 h5
          cases hl
          exact ⟨W3, e3, s2, _, R4, h5, fun W6 H6 le6 v6 R6 r6 => k W6 H6 (((le1.trans le2).trans le3).trans le6) v6 R6 r6⟩
        · cases hl
      · cases hl
    · have hl0 : ds.drop i = [] := List.drop_eq_nil_of_le (by omega)
      rw [hl0] at hl
      unfold forL at hl
      cases hl
      exact .inl ⟨i1 (by omega), k W2 H2 (le1.trans le2) σ2 R2⟩
  · cases hf
/-! ### while -/
theorem vs_whl (hpo : PassesOwn (model X.prog X.w) X.A X.env X.xe) (hc : PTv X cl c fc) (hb : PSsv X cl ro body F) : PSv X cl ro (.While c body [] pos) (xWhile fc F) := PS.imp (ps_while hpo hc hb) fun Dn σ H => by
  rintro ⟨W, env, sto, out, R, hf, k⟩
  unfold xWhile at hf
  refine ⟨fun m σ H => ∃ W' e s, W.Ext W' ∧ Rel X.K X.w cl W' e s σ H ∧ whileN fc F m e s = some out, ⟨FUEL, W, env, sto, .refl _, R, hf⟩, ?_⟩
  rintro m σ1 H1 ⟨W1, e1, s1, le1, R1, hl⟩
  cases m with
  | zero => cases hl
  | succ m =>
    unfold whileN at hl
    split at hl
    · rename_i s2 h2
      refine ⟨W1, e1, s1, true, s2, R1, h2, fun W2 H2 le2 R2 => ?_⟩
      show (if true = true then _ else _)
      rw [if_pos rfl]
      refine ⟨fun σ' H' => ∃ W' e s, W.Ext W' ∧ Rel X.K X.w cl W' e s σ' H' ∧ whileN fc F m e s = some out, fun σ' H' n => ⟨m, Nat.lt_succ_self m, n⟩, ?_⟩
      split at hl
      · rename_i e5 s5 h5
        exact ⟨W2, e1, s2, _, R2, h5, fun W6 H6 le6 σ6 R6 => ⟨W6, e5, s5, (le1.trans le2).trans le6, R6, hl⟩⟩
      · rename_i e5 s5 h5
        exact ⟨W2, e1, s2, _, R2, h5, fun W6 H6 le6 σ6 R6 => ⟨W6, e5, s5, (le1.trans le2).trans le6, R6, hl⟩⟩
      · rename_i e5 s5 h5
        cases hl
        exact ⟨W2, e1, s2, _, R2, h5, fun W6 H6 le6 σ6 R6 => k W6 H6 ((le1.trans le2).trans le6) σ6 R6⟩
      · rename_i d5 s5 h5
        cases hl
        exact ⟨W2, e1, s2, _, R2, h5, fun W6 H6 le6 v6 R6 r6 => k W6 H6 ((le1.trans le2).trans le6) v6 R6 r6⟩
      · cases hl
    · rename_i s2 h2
      cases hl
      refine ⟨W1, e1, s1, false, s2, R1, h2, fun W2 H2 le2 R2 => ?_⟩
      show (if false = true then _ else _)
      rw [if_neg Bool.false_ne_true]
      exact k W2 H2 (le1.trans le2) σ1 R2
    · cases hl
end
/-! ### a def -/
section
variable {P : Program} {w : World} {K : PySem.W.Frag} {mg : Str → Option Value} {base : Heap} {cl : Nat → Option Addr}
theorem arg_cell {W : Wd} {H : Hp} : ∀ {cs : List Cell} {vs : List V}, ArgR K w W H cs vs → ∀ (i : Nat) (c : Cell), cs[i]? = some c → ∃ v, vs[i]? = some v ∧ Cell.no c ∧ CellR K w W H c v
  | _, _, .cons h r, 0, c, e => by
    simp only [List.getElem?_cons_zero, Option.some.injEq] at e
    subst e
    exact ⟨_, rfl, h⟩
  | _, _, .cons h r, i + 1, c, e => by
    simp only [List.getElem?_cons_succ] at e ⊢
    exact arg_cell r i c e
theorem start_rel {W : Wd} {sto : Sto} {H : Hp} {cs : List Cell} {vs : List V} {N : List Str} (S : RelS K w cl W sto H) (A : ArgR K w W H cs vs) : Rel K w cl W (cs.map some ++ List.replicate (N.length - cs.length) none) sto (L2.start N vs) H := by
  have hl := paired_length A
  have get : ∀ (i : Nat) (c : Cell), (cs.map some ++ List.replicate (N.length - cs.length) none)[i]? = some (some c) → cs[i]? = some c := fun i c h => by
    by_cases hi : i < cs.length
    · rw [List.getElem?_append_left (by simpa using hi), List.getElem?_map] at h
      simp only [Option.map_eq_some_iff] at h
      obtain ⟨c, hc, e⟩ := h
      cases e
      exact hc
    · rw [List.getElem?_append_right (by simpa using hi), List.getElem?_replicate] at h
      split at h <;> cases h
  have no : ∀ (i : Nat) (d : D), (cs.map some ++ List.replicate (N.length - cs.length) none)[i]? ≠ some (some (Cell.own d)) := fun i d h => (arg_cell A i _ (get i _ h)).elim fun v q => q.2.1
  refine ⟨S, ?_, fun i c h => ?_, fun i j d d' p h => absurd h (no i d), fun i d p n f h => absurd h (no i d), fun i d p h => absurd h (no i d)⟩
  · simp only [L2.start, List.length_append, List.length_map, List.length_replicate, hl]
  · obtain ⟨v, h1, _, h2⟩ := arg_cell A i c (get i c h)
    have hi := (List.getElem?_eq_some_iff.mp h1).1
    refine ⟨v, ?_, h2⟩
    unfold L2.start
    rw [List.getElem?_append_left (by simpa using hi), List.getElem?_map, h1]
    rfl
theorem vals_rt {ro : Bool} {W : Wd} {sto : Sto} {H : Hp} : ResF K w ro W sto H .non .non := resF_non
/-- THE RULE of a def -/
theorem fn_h {x qual : Str} {st : Stmt} {f : Addr} {fd : FuncData} {N ps : List Str} {k i : Nat} {fn : Fn} {R R' : Run} (F : Fun K x qual st f fd) (S : FnScope N ps (defScope st)) (hb : Binds K fd ps []) (hns : fn.ns = N.length) (hnp : fn.np = ps.length)
    (hR : ∀ cs s, R' i cs s = runFn fn R cs s)
    (body : ∀ (cdv : Value) (A : Around) (outer : List PySem.Env) (s : Shared) (H : Hp) (E : XK), Room k (A.deeper (PyProof.Rows.envOfC qual (defScope st) s.heap.objs.size f cdv)) →
      PSsv (cxOf CX0 P w K mg base N qual (defScope st) f cdv A outer s H E).nox cl fn.ro (defBody st) (fn.body R)) : FnH0 P w K mg base cl R' i fn.ro (k + 1) f := by
  have hlen : ∀ cs s r, R' i cs s = some r → cs.length = ps.length := fun cs s r h => by
    rw [hR] at h
    unfold runFn at h
    split at h
    · rename_i e
      rw [e, hnp]
    · cases h
  refine ⟨fd, ps, F.ok S (fun vs H Q E h => h.1) (fun cdv A outer s H vs Q E hr h => ?_), hb, hlen⟩
  refine ⟨_, body cdv A outer s H E hr, ?_⟩
  obtain ⟨hv, W, sto, cs, d, sto', RS, AR, hrun, kk⟩ := h
  have hrun0 := hrun
  rw [hR] at hrun
  unfold runFn at hrun
  split at hrun
  · rename_i e
    have R0 := start_rel (N := N) RS AR
    have e2 : List.replicate (fn.ns - fn.np) (none : Option Cell) = List.replicate (N.length - cs.length) none := by rw [hns, e]
    rw [e2] at hrun
    split at hrun
    · rename_i d1 s1 h1
      cases hrun
      exact ⟨W, _, sto, _, R0, h1, fun W' H' le v R' r => kk W' H' v le R' r⟩
    · rename_i e1 s1 h1
      cases hrun
      exact ⟨W, _, sto, _, R0, h1, fun W' H' le σ' R' => kk W' H' .non le R'.s resF_non⟩
    · cases hrun
  · cases hrun
end
end PI
/-! the drawing of numbers -/
namespace PI
open PySem L2

/-- the cells and the seed are changed -/
theorem relS_drw {K : PySem.W.Frag} {w : World} {cl : Nat → Option Addr} {W : Wd} {sto : Sto} {H H' : Hp} {n : Nat} {a p : Addr} {cells cells' : List Int} {seed seed' : Int} (R : RelS K w cl W sto H) (ha : W.E[n]? = some a) (hs : sto[n]? = some (.drw cells seed))
    (h1 : H a = some (.lst [.ref p, .int seed])) (h2 : H p = some (.lst (cells.map V.int))) (k1 : H' a = some (.lst [.ref p, .int seed'])) (k2 : H' p = some (.lst (cells'.map V.int))) (kp : ∀ b, b ≠ a → b ≠ p → H' b = H b) :
    RelS K w cl W (sto.set n (.drw cells' seed')) H' := by
  have aE : a ∈ W.E := List.mem_of_getElem? ha
  have own0 : FOwn W sto H n 0 p := ⟨a, ha, .inr ⟨cells, seed, hs, h1, rfl⟩⟩
  obtain ⟨pS, pF, pP⟩ := fown_some R own0
  have pE := R.sepE _ _ _ own0
  have aF := (R.nE a aE).1
  have aP := (R.nE a aE).2
  have hn : n < sto.length := (List.getElem?_eq_some_iff.mp hs).1
  have nL : ∀ b, W.F b = none → W.L b = none := fun b e => by
    cases q : W.L b with
    | none => rfl
    | some o => exact absurd e (R.disL b o q)
  have Eq : ∀ (n' : Nat) (b : Addr), W.E[n']? = some b → b = a → n' = n := fun n' b h e => by
    subst e
    exact (List.getElem?_inj (List.getElem?_eq_some_iff.mp h).1 R.nd).mp (h.trans ha.symm)
  have cellK : ∀ {c0 : Cell} {u : V}, CellR K w W H c0 u → (∀ d0 q, c0 = .own d0 → u = .ref q → q ≠ p ∧ q ∉ W.E) → CellR K w W H' c0 u := fun {c0 u} h k => by
    cases c0 with
    | val d => exact h
    | own d =>
      obtain ⟨q, o, e1, g1, g2, g3, g4⟩ := h
      obtain ⟨z1, z2⟩ := k d q rfl e1
      exact ⟨q, o, e1, by rw [kp q (fun z => z2 (by rw [z]; exact aE)) z1]; exact g1, g2, g3, g4⟩
    | lck d => exact h
  have fo : ∀ n' f q, FOwn W (sto.set n (.drw cells' seed')) H' n' f q → FOwn W sto H n' f q := fun n' f q ⟨b, hb, h⟩ => by
    by_cases e : n' = n
    · subst e
      rw [ha] at hb
      cases hb
      rw [List.getElem?_set_self hn, k1] at h
      rcases h with ⟨c', fs', y, d1, C', dx', vs', z, g1, g2, g3, g4⟩ | ⟨cs, sd, g1, g2, g3⟩
      · cases g1
      · cases g1
        cases g2
        subst g3
        exact own0
    · rw [List.getElem?_set_ne (Ne.symm e)] at h
      have nb : b ≠ a := fun z => e (Eq n' b hb z)
      have np : b ≠ p := fun z => pE (by rw [← z]; exact List.mem_of_getElem? hb)
      rw [kp b nb np] at h
      exact ⟨b, hb, h⟩
  have keepF : ∀ b, W.F b ≠ none → H' b = H b := fun b e => kp b (fun z => e (by rw [z]; exact aF)) (fun z => e (by rw [z]; exact pF))
  refine ⟨fun b u h => ?_, fun b u h => ?_, fun b u h => ?_, R.disj, R.disL, by simp [R.len], R.nd, R.nE, fun n' s b g1 g2 => ?_, fun n1 f1 n2 f2 q g1 g2 => R.sep _ _ _ _ _ (fo _ _ _ g1) (fo _ _ _ g2), fun n' f q h => R.sepE _ _ _ (fo _ _ _ h)⟩
  · have e := keepF b (by rw [h]; exact fun z => (nomatch z))
    rcases R.subF b u h with q | ⟨q1, ob, q2⟩
    · exact .inl (by rw [e]; exact q)
    · exact .inr ⟨q1, ob, by rw [e]; exact q2⟩
  · rw [kp b (fun z => by rw [z, aP] at h; cases h) (fun z => by rw [z, pP] at h; cases h)]
    exact R.subP b u h
  · rw [keepF b (R.disL b u h)]
    exact R.subL b u h
  · by_cases e : n' = n
    · subst e
      rw [List.getElem?_set_self hn] at g1
      cases g1
      rw [ha] at g2
      cases g2
      exact ⟨p, k1, k2, pF, pP⟩
    · rw [List.getElem?_set_ne (Ne.symm e)] at g1
      have nb : b ≠ a := fun z => e (Eq n' b g2 z)
      have np : b ≠ p := fun z => pE (by rw [← z]; exact List.mem_of_getElem? g2)
      have q := R.ob n' s b g1 g2
      cases s with
      | ins c fs =>
        obtain ⟨C, dx, vs, g3, g4, g5⟩ := q
        refine ⟨C, dx, vs, by rw [kp b nb np]; exact g3, g4, paired_mem_imp (fun j y z e1 e2 k => ⟨k.1, k.2.1, cellK k.2.2 fun d0 q m1 m2 => ?_⟩) g5⟩
        obtain ⟨y, cy⟩ := y
        obtain ⟨z, vz⟩ := z
        have m1 : cy = .own d0 := m1
        have m2 : vz = .ref q := m2
        subst m1; subst m2
        have ow : FOwn W sto H n' j q := ⟨b, g2, .inl ⟨c, fs, y, d0, C, dx, vs, z, g1, e1, g3, e2⟩⟩
        refine ⟨fun z => ?_, R.sepE _ _ _ ow⟩
        subst z
        exact e (R.sep _ _ _ _ _ ow own0).1
      | drw cs sd =>
        obtain ⟨q, g3, g4, g5, g6⟩ := q
        have ow : FOwn W sto H n' 0 q := ⟨b, g2, .inr ⟨cs, sd, g1, g3, rfl⟩⟩
        refine ⟨q, by rw [kp b nb np]; exact g3, ?_, g5, g6⟩
        rw [kp q (fun z => R.sepE _ _ _ ow (by rw [z]; exact aE)) fun z => ?_]
        · exact g4
        · subst z
          exact e (R.sep _ _ _ _ _ ow own0).1

/-! ### the draw, as the early laws write it -/
def drawA (cells : List Int) (seed many : Int) : Int × List Int × Int := if many < 1 then (0, cells, seed) else match cells.dropWhile (· == 0) with
  | v :: r => (v % many, (v / many) :: r, seed)
  | [] => (((seed * 48271 + 12345) % 2147483647 / 64) % many, [], (seed * 48271 + 12345) % 2147483647)
/-- .. as a part of the evaluator -/
def pDraw (dr : List Int → Int → Int → Int × List Int × Int) : List Cell → Sto → Option (D × Sto)
  | [.val (.obj n), .val (.int m)], s => if near 1073741824 m then match s[n]? with
    | some (.drw cells seed) => some (.int (dr cells seed m).1, s.set n (.drw (dr cells seed m).2.1 (dr cells seed m).2.2))
    | _ => none else none
  | _, _ => none
abbrev rB0 (K : PySem.W.Frag) : List V → Hp → VK → Prop := fun xs H Q => ∃ p ys, xs = [.ref p] ∧ (SqL K H p ys ∨ SqT K H p ys) ∧ Q (.int ys.length) H
abbrev rIn1 : List V → Hp → VK → Prop := fun xs H Q => (∃ i, xs = [.int i] ∧ Q (.int i) H) ∨ ∃ k, xs = [.bl k] ∧ Q (.int (if k then 1 else 0)) H
abbrev rAdd0 : R2 := rI0 fun i j => .int (i + j)
abbrev rMul0 : R2 := rI CMul fun i j => .int (i * j)
abbrev rDiv0 : R2 := rI CDiv fun i j => .int (i / j)
abbrev rMod0 : R2 := rI (fun _ j => 0 < j) fun i j => .int (i % j)
abbrev rLt0 : R2 := rI0 fun i j => .bl (decide (i < j))
abbrev rGt0 : R2 := rI0 fun i j => .bl (decide (j < i))
abbrev tLenD (K : PySem.W.Frag) (i : Nat) : TE := tCB (rB0 K) (tCons (tVar i) tNil)
abbrev tIntD (t : TE) : TE := tCB rIn1 (tCons t tNil)
abbrev tIxD (K : PySem.W.Frag) (i : Nat) (j : Int) : TE := tOp (rIxL K) (tVar i) (tC (.int j))
abbrev tPopD (K : PySem.W.Frag) (i : Nat) : TS := tDrop (tBM K "list" rPopAt (tVar i) (tCons (tC (.int 0)) tNil))
abbrev tTail (K : PySem.W.Frag) (i : Nat) : TS := tSeq (tAsg (tOp rMod0 (tIntD (tOp rAdd0 (tOp rMul0 (tIxD K 0 1) (tC (.int 48271))) (tC (.int 12345)))) (tC (.int 2147483647))) (gName i))
  (tSeq (tAsg (tVar i) (gSub (tVar 0) (tC (.int 1)) rSetL)) (tRet (tOp rMod0 (tIntD (tOp rDiv0 (tVar i) (tC (.int 64)))) (tVar 1))))
abbrev tTake (K : PySem.W.Frag) (i : Nat) : TS := tSeq (tAsg (tIxD K 2 0) (gName i)) (tSeq (tAsg (tOp rDiv0 (tVar i) (tVar 1)) (gSub (tVar 2) (tC (.int 0)) rSetL)) (tRet (tOp rMod0 (tIntD (tVar i)) (tVar 1))))
def tDrawA (K : PySem.W.Frag) : TS := tSeq (tIfS (tTest (tOp rLt0 (tVar 1) (tC (.int 1)))) (tRet (tC (.int 0))) tNext)
  (tSeq (tAsg (tIxD K 0 0) (gName 2))
  (tSeq (tWhile (tAnd (tTest (tOp rGt0 (tLenD K 2) (tC (.int 0)))) (tTest (tOp rEq (tIxD K 2 0) (tC (.int 0))))) (tPopD K 2))
  (tSeq (tIfS (tTest (tOp rGt0 (tLenD K 2) (tC (.int 0)))) (tTake K 3) tNext) (tTail K 4))))
theorem ixN_zero {n : Nat} : ixN (n + 1) 0 = some 0 := by
  unfold ixN
  rw [if_pos (by omega), if_pos (by omega)]
  rfl
theorem atI_zero {x : V} {xs : List V} : atI (x :: xs) 0 = some x := atI_nat (xs := x :: xs) (j := 0) rfl
/-- what is left of the walk when the cells are at their end -/
theorem tail_run {K : PySem.W.Frag} {i : Nat} {σ : St} {H : Hp} {a p : Addr} {m seed : Int} {Dn : Ends} (h0 : σ[0]? = some (some (.ref a))) (h1 : σ[1]? = some (some (.int m))) (hi : i ≠ 0 ∧ i ≠ 1 ∧ i < σ.length) (hm : 0 < m) (ha : H a = some (.lst [.ref p, .int seed]))
    (k : ∀ H', H' a = some (.lst [.ref p, .int ((seed * 48271 + 12345) % 2147483647)]) → (∀ b, b ≠ a → H' b = H b) → Dn.rt (.int (((seed * 48271 + 12345) % 2147483647 / 64) % m)) H') : tTail K i Dn σ H := by
  refine ⟨_, h0, a, _, 1, _, rfl, rfl, SqL.of ha, rfl, ?_⟩
  refine ⟨_, _, rfl, rfl, .inr (by decide), _, _, rfl, rfl, .inl ⟨_, rfl, _, _, rfl, rfl, (by show (0 : Int) < 2147483647; decide), ?_⟩⟩
  have s0 : ∀ v, (σ.set i (some v))[0]? = some (some (.ref a)) := fun v => by rw [List.getElem?_set_ne hi.1]; exact h0
  have s1 : ∀ v, (σ.set i (some v))[1]? = some (some (.int m)) := fun v => by rw [List.getElem?_set_ne hi.2.1]; exact h1
  have si : ∀ v, (σ.set i (some v))[i]? = some (some v) := fun v => List.getElem?_set_self hi.2.2
  refine ⟨_, si _, _, s0 _, a, _, 1, 1, rfl, rfl, ha, rfl, ?_⟩
  refine ⟨_, si _, _, _, rfl, rfl, ⟨by decide, by decide⟩, .inl ⟨_, rfl, _, s1 _, _, _, rfl, rfl, hm, ?_⟩⟩
  exact k _ (by rw [upd_same]; rfl) fun b nb => by rw [upd_ne nb]
theorem take_run {K : PySem.W.Frag} {i : Nat} {σ : St} {H : Hp} {p : Addr} {m v : Int} {r : List Int} {Dn : Ends} (h1 : σ[1]? = some (some (.int m))) (h2 : σ[2]? = some (some (.ref p))) (hi : i ≠ 1 ∧ i ≠ 2 ∧ i < σ.length) (hm : 0 < m) (hm2 : m < 1073741824) (hp : H p = some (.lst ((v :: r).map V.int)))
    (k : ∀ H', H' p = some (.lst (((v / m) :: r).map V.int)) → (∀ b, b ≠ p → H' b = H b) → Dn.rt (.int (v % m)) H') : tTake K i Dn σ H := by
  refine ⟨_, h2, p, _, 0, _, rfl, rfl, SqL.of hp, atI_zero, ?_⟩
  have s2 : ∀ v, (σ.set i (some v))[2]? = some (some (.ref p)) := fun v => by rw [List.getElem?_set_ne hi.2.1]; exact h2
  have s1 : ∀ v, (σ.set i (some v))[1]? = some (some (.int m)) := fun v => by rw [List.getElem?_set_ne hi.1]; exact h1
  have si : ∀ v, (σ.set i (some v))[i]? = some (some v) := fun v => List.getElem?_set_self hi.2.2
  refine ⟨_, si _, _, s1 _, _, _, rfl, rfl, ⟨hm, hm2⟩, _, s2 _, p, _, 0, 0, rfl, rfl, hp, ixN_zero, ?_⟩
  refine ⟨_, si _, .inl ⟨_, rfl, _, s1 _, _, _, rfl, rfl, hm, ?_⟩⟩
  exact k _ (by rw [upd_same]; rfl) fun b nb => by rw [upd_ne nb]
theorem drawA_run {K : PySem.W.Frag} {H : Hp} {a p : Addr} {m seed : Int} {cells : List Int} {Dn : Ends} {σ : St} (hs : σ = [some (.ref a), some (.int m), none, none, none]) (hm2 : m < 1073741824) (nap : a ≠ p) (ha : H a = some (.lst [.ref p, .int seed])) (hp : H p = some (.lst (cells.map V.int)))
    (k : ∀ H', H' a = some (.lst [.ref p, .int (drawA cells seed m).2.2]) → H' p = some (.lst ((drawA cells seed m).2.1.map V.int)) → (∀ b, b ≠ a → b ≠ p → H' b = H b) → Dn.rt (.int (drawA cells seed m).1) H') : tDrawA K Dn σ H := by
  subst hs
  refine ⟨_, rfl, _, _, rfl, rfl, _, rfl, ite2 (fun h => ?_) fun h => ?_⟩
  · have h := of_decide_eq_true h
    have e : drawA cells seed m = (0, cells, seed) := by unfold drawA; rw [if_pos h]
    rw [e] at k
    exact k H ha hp fun _ _ _ => rfl
  · have h : ¬ m < 1 := fun z => h (decide_eq_true z)
    refine ⟨_, rfl, a, _, 0, _, rfl, rfl, SqL.of ha, atI_zero, ?_⟩
    refine ⟨fun n σ H' => ∃ cs : List Int, n = cs.length ∧ σ = [some (.ref a), some (.int m), some (.ref p), none, none] ∧ H' p = some (.lst (cs.map V.int)) ∧ (∀ b, b ≠ p → H' b = H b) ∧ cs.dropWhile (· == 0) = cells.dropWhile (· == 0), ⟨_, cells, rfl, rfl, hp, fun _ _ => rfl, rfl⟩, ?_⟩
    rintro n σ H1 ⟨cs, rfl, rfl, hp1, kp1, hc⟩
    refine ⟨_, rfl, p, _, rfl, .inl (SqL.of hp1), _, _, rfl, rfl, _, rfl, ?_⟩
    cases cs with
    | nil =>
      show (if decide (0 < (((([] : List Int).map V.int).length : Nat) : Int)) = true then _ else _)
      rw [if_neg (by decide)]
      show (if false = true then _ else _)
      rw [if_neg Bool.false_ne_true]
      refine ⟨_, rfl, p, _, rfl, .inl (SqL.of hp1), _, _, rfl, rfl, _, rfl, ?_⟩
      show (if decide (0 < (((([] : List Int).map V.int).length : Nat) : Int)) = true then _ else _)
      rw [if_neg (by decide)]
      have e : drawA cells seed m = (((seed * 48271 + 12345) % 2147483647 / 64) % m, [], (seed * 48271 + 12345) % 2147483647) := by
        unfold drawA
        rw [if_neg h, ← hc]
        rfl
      rw [e] at k
      refine tail_run rfl rfl ⟨by decide, by decide, by simp⟩ (by omega) (by rw [kp1 a nap]; exact ha) fun H2 g1 g2 => ?_
      exact k H2 g1 (by rw [g2 p nap.symm]; exact hp1) fun b n1 n2 => by rw [g2 b n1, kp1 b n2]
    | cons c cs =>
      have hlen : decide ((0 : Int) < ((((c :: cs).map V.int).length : Nat) : Int)) = true := decide_eq_true (by simp only [List.map_cons, List.length_cons]; omega)
      show (if decide (0 < ((((c :: cs).map V.int).length : Nat) : Int)) = true then _ else _)
      rw [if_pos hlen]
      refine ⟨_, rfl, p, _, 0, _, rfl, rfl, SqL.of hp1, atI_zero, rfl, _, rfl, ?_⟩
      by_cases c0 : c = 0
      · subst c0
        have e : decide (V.int 0 = V.int 0) = true := decide_eq_true rfl
        rw [if_pos e]
        refine ⟨fun σ' H' => ∃ cs' : List Int, cs'.length = cs.length ∧ σ' = [some (.ref a), some (.int m), some (.ref p), none, none] ∧ H' p = some (.lst (cs'.map V.int)) ∧ (∀ b, b ≠ p → H' b = H b) ∧ cs'.dropWhile (· == 0) = cells.dropWhile (· == 0), fun σ' H' ⟨cs', q1, q2, q3, q4, q5⟩ => ⟨cs'.length, (by show cs'.length < cs.length + 1; omega), cs', rfl, q2, q3, q4, q5⟩, ?_⟩
        refine ⟨_, rfl, .inl ⟨rfl, _, SqL.of hp1⟩, p, _, 0, 0, _, rfl, rfl, hp1, by decide, by decide, by simp [seqIndex?], rfl, ?_⟩
        exact ⟨cs, rfl, rfl, by rw [upd_same]; rfl, fun b nb => by rw [upd_ne nb]; exact kp1 b nb, by rw [← hc]; simp [List.dropWhile_cons]⟩
      · have e : ¬ decide (V.int c = V.int 0) = true := fun z => c0 (by have := of_decide_eq_true z; injection this)
        show (if decide (V.int c = V.int 0) = true then _ else _)
        rw [if_neg e]
        refine ⟨_, rfl, p, _, rfl, .inl (SqL.of hp1), _, _, rfl, rfl, _, rfl, ?_⟩
        show (if decide (0 < ((((c :: cs).map V.int).length : Nat) : Int)) = true then _ else _)
        rw [if_pos hlen]
        have e : drawA cells seed m = (c % m, (c / m) :: cs, seed) := by
          unfold drawA
          rw [if_neg h, ← hc]
          simp [List.dropWhile_cons, c0]
        rw [e] at k
        refine take_run rfl rfl ⟨by decide, by decide, by simp⟩ (by omega) hm2 hp1 fun H2 g1 g2 => ?_
        exact k H2 (by rw [g2 a nap, kp1 a nap]; exact ha) g1 fun b n1 n2 => by rw [g2 b n2, kp1 b n2]
/-! ### the state, made of the script -/
abbrev rAbs0 : List V → Hp → VK → Prop := fun xs H Q => ∃ i, xs = [.int i] ∧ Q (.int (if i < 0 then -i else i)) H
def tState (K : PySem.W.Frag) (s0 mul : Int) : TS := tSeq (tAsg (tC (.int s0)) (gName 1)) (tSeq (tFor (iList K (tVar 0)) (gName 2) (tAsg (tOp rMod0 (tIntD (tOp rAdd0 (tOp rMul0 (tVar 1) (tC (.int mul))) (tVar 2))) (tC (.int 1000003))) (gName 1)))
  (tRet (tLst (tCons (tLc (iList K (tVar 0)) (gName 2) tYes (tCB rAbs0 (tCons (tVar 2) tNil)) [2]) (tCons (tOp rAdd0 (tVar 1) (tC (.int 1))) tNil)))))
def spState (K : PySem.W.Frag) : Sp := fun vs H Q _ => ∃ (a : Addr) (ns : List Int), vs = [.ref a] ∧ SqL K H a (ns.map V.int) ∧ ns.length ≤ 63 ∧
  ∀ (p q : Addr) (seed : Int) (cells : List Int) (H' : Hp), Same H H' → H p = none → H q = none → p ≠ q → H' q = some (.lst [.ref p, .int seed]) → H' p = some (.lst (cells.map V.int)) → Q (.ref q) H'
theorem get_map_int {ns : List Int} {i : Nat} {x : V} (h : (ns.map V.int)[i]? = some x) : ∃ z, x = V.int z := by
  rw [List.getElem?_map] at h
  simp only [Option.map_eq_some_iff] at h
  obtain ⟨z, _, rfl⟩ := h
  exact ⟨z, rfl⟩
theorem state_run {K : PySem.W.Frag} {s0 mul : Int} {H : Hp} {a : Addr} {ns : List Int} {Dn : Ends} (hmul : -(2 ^ 64) < mul ∧ mul < 2 ^ 64) (hs : SqL K H a (ns.map V.int)) (hl : ns.length ≤ 63)
    (k : ∀ (p q : Addr) (seed : Int) (cells : List Int) (H' : Hp), Same H H' → H p = none → H q = none → p ≠ q → H' q = some (.lst [.ref p, .int seed]) → H' p = some (.lst (cells.map V.int)) → Dn.rt (.ref q) H') :
    tState K s0 mul Dn [some (.ref a), none, none] H := by
  have hm : ∀ i, CMul i mul := fun i => .inr hmul
  refine ⟨_, rfl, a, rfl, ⟨_, hs⟩, for_list (K := K) (a := a) (xs := ns.map V.int) (fun i σ H2 => H2 = H ∧ ∃ (sd : Int) (v : Option V), σ = [some (.ref a), some (.int sd), v]) ⟨rfl, s0, none, rfl⟩ (fun i σ H2 _ h => by rw [h.1]; exact hs) ?_ ?_⟩
  · rintro i x σ H2 hi ⟨rfl, sd, v, rfl⟩
    obtain ⟨z, rfl⟩ := get_map_int hi
    refine ⟨_, rfl, _, _, rfl, rfl, hm _, _, rfl, _, _, rfl, rfl, .inl ⟨_, rfl, _, _, rfl, rfl, (by show (0 : Int) < 1000003; decide), ?_⟩⟩
    exact ⟨rfl, _, _, rfl⟩
  · rintro σ H2 ⟨rfl, sd, v, rfl⟩
    refine ⟨_, rfl, a, rfl, ⟨_, hs⟩, fun p hp => ?_⟩
    have sm : ∀ xs, Same H2 (upd H2 p (.lst xs)) := fun xs => same_new hp
    refine lc_list (K := K) (a := a) (xs := ns.map V.int) (fun i H3 => ∃ cs : List Int, H3 = upd H2 p (.lst (cs.map V.int)) ∧ cs.length = i) ⟨[], rfl, rfl⟩ (fun i H3 _ ⟨cs, e, _⟩ => by rw [e]; exact (sm _).seq hs) ?_ ?_
    · rintro i x H3 hi ⟨cs, rfl, hc⟩
      obtain ⟨z, rfl⟩ := get_map_int hi
      have hi2 : i < ns.length := by simpa using (List.getElem?_eq_some_iff.mp hi).1
      refine ⟨rfl, ?_⟩
      unfold tYes
      dsimp only
      rw [if_pos rfl]
      refine ⟨_, rfl, z, rfl, cs.map V.int, upd_same, by rw [List.length_map]; exact lt_line (by rw [hc]; unfold LIM; omega), cs ++ [if z < 0 then -z else z], ?_, by simp [hc]⟩
      rw [List.map_append]
      funext b
      by_cases e : b = p
      · subst e; rw [upd_same, upd_same]; rfl
      · rw [upd_ne e, upd_ne e, upd_ne e]
    · rintro H3 ⟨cs, rfl, hc⟩
      refine ⟨_, rfl, _, _, rfl, rfl, (by show 2 ≤ sizeLine; exact le_line (by decide)), fun q hq => ?_⟩
      have qp : q ≠ p := fun z => by rw [z, upd_same] at hq; cases hq
      have hq' : H2 q = none := by rw [upd_ne qp] at hq; exact hq
      refine k p q _ cs _ ((sm _).trans (same_new hq)) hp hq' qp.symm upd_same ?_
      rw [upd_ne qp.symm]
      exact upd_same
/-! ### as parts of a text -/
section
variable {P : Program} {w : World} {K : PySem.W.Frag} {mg : Str → Option Value} {base : Heap} {cl : Nat → Option Addr}
/-- the draw keeps its promise, given the walk of its body -/
theorem draw_h {x qual : Str} {st : Stmt} {f : Addr} {fd : FuncData} {N ps : List Str} {k i : Nat} {R' : Run} {tD : TS} {dr : List Int → Int → Int → Int × List Int × Int} (F : Fun K x qual st f fd) (S : FnScope N ps (defScope st)) (hb : Binds K fd ps []) (hnp : ps.length = 2)
    (hR : ∀ cs s, R' i cs s = pDraw dr cs s)
    (run : ∀ (H : Hp) (a p : Addr) (m seed : Int) (cells : List Int) (Dn : Ends), m < 1073741824 → a ≠ p → H a = some (.lst [.ref p, .int seed]) → H p = some (.lst (cells.map V.int)) →
      (∀ H', H' a = some (.lst [.ref p, .int (dr cells seed m).2.2]) → H' p = some (.lst ((dr cells seed m).2.1.map V.int)) → (∀ b, b ≠ a → b ≠ p → H' b = H b) → Dn.rt (.int (dr cells seed m).1) H') → tD Dn (L2.start N [.ref a, .int m]) H)
    (body : ∀ (cdv : Value) (A : Around) (outer : List PySem.Env) (s : Shared) (H : Hp) (E : XK), Room k (A.deeper (PyProof.Rows.envOfC qual (defScope st) s.heap.objs.size f cdv)) →
      PSs (cxOf CX0 P w K mg base N qual (defScope st) f cdv A outer s H E).nox (defBody st) tD) : FnH0 P w K mg base cl R' i false (k + 1) f := by
  have form : ∀ cs s d s', pDraw dr cs s = some (d, s') → ∃ n m cells seed, cs = [.val (.obj n), .val (.int m)] ∧ m < 1073741824 ∧ s[n]? = some (.drw cells seed) ∧ d = .int (dr cells seed m).1 ∧ s' = s.set n (.drw (dr cells seed m).2.1 (dr cells seed m).2.2) := fun cs s d s' h => by
    unfold pDraw at h
    split at h
    · rename_i n m
      split at h
      · rename_i hm
        split at h
        · rename_i cells seed hs
          simp only [Option.some.injEq, Prod.mk.injEq] at h
          obtain ⟨rfl, rfl⟩ := h
          exact ⟨n, m, cells, seed, rfl, (near_iff hm).2, hs, rfl, rfl⟩
        · cases h
      · cases h
    · cases h
  have hlen : ∀ cs s r, R' i cs s = some r → cs.length = ps.length := fun cs s r h => by
    rw [hR] at h
    obtain ⟨d, s'⟩ := r
    obtain ⟨n, m, cells, seed, rfl, _⟩ := form cs s d s' h
    rw [hnp]
    rfl
  refine ⟨fd, ps, F.ok S (fun vs H Q E h => h.1) (fun cdv A outer s H vs Q E hr h => ?_), hb, hlen⟩
  refine ⟨_, body cdv A outer s H E hr, ?_⟩
  obtain ⟨hv, W, sto, cs, d, sto', RS, AR, hrun, kk⟩ := h
  rw [hR] at hrun
  obtain ⟨n, m, cells, seed, rfl, hm, hs, rfl, rfl⟩ := form cs sto d sto' hrun
  cases AR with
  | cons a1 r1 =>
    cases r1 with
    | cons a2 r2 =>
      cases r2
      have a1 := a1.2
      have a2 := a2.2
      unfold CellR Rep at a1 a2
      obtain ⟨a, rfl, ha⟩ := a1
      subst a2
      obtain ⟨p, h1, h2, h3, h4⟩ := RS.ob n _ a hs ha
      have nap : a ≠ p := fun z => RS.sepE n 0 p ⟨a, ha, .inr ⟨cells, seed, hs, h1, rfl⟩⟩ (by rw [← z]; exact List.mem_of_getElem? ha)
      refine run H a p m seed cells _ hm nap h1 h2 fun H' k1 k2 k3 => ?_
      exact kk W H' _ (.refl _) (relS_drw RS ha hs h1 h2 k1 k2 k3) (by show Rep K w W _ _; simp [Rep])
end
end PI
/-! the rules in short -/
namespace PI
open PySem L2
section
variable {X : Cx} {cl : Nat → Option Addr} {ro : Bool} {a b c : Expr} {f g h fa fb fc : Fe} {pos p p2 : Pos}
theorem hu65 {k : Nat} {A : Around} (r : Room k A) : A.units + 65 < cLine := by have := r.un; omega
structure Cmp1 (X : Cx) (o : COp) (c : CmpOp) : Prop where
  ex : ∃ r, OpR X (compareOp c) r ∧ Pur2 X.K X.w r fun a b => (dCmp o a b).map .bl
structure Bin1 (X : Cx) (o : BOp) (c : Operator) : Prop where
  ex : ∃ r, OpR X (binaryOp c) r ∧ Pur2 X.K X.w r (dBin o)
theorem k_eq (hu : X.A.units + 65 < cLine) : Cmp1 X .eq .Eq := ⟨_, op_eqU (by omega), pur_eq⟩
theorem k_ne (hu : X.A.units + 65 < cLine) : Cmp1 X .ne .NotEq := ⟨_, op_neU (by omega), pur_ne⟩
theorem k_lt (hu : X.A.units + 65 < cLine) : Cmp1 X .lt .Lt := ⟨_, op_ltU (by omega), pur_lt⟩
theorem k_gt : Cmp1 X .gt .Gt := ⟨_, op_gt, pur_gt⟩
theorem k_le : Cmp1 X .le .LtE := ⟨_, op_le, pur_le⟩
theorem k_ge : Cmp1 X .ge .GtE := ⟨_, op_ge, pur_ge⟩
theorem k_in (hu : X.A.units + 65 < cLine) : Cmp1 X .isin .In := ⟨_, op_inU hu, pur_in⟩
theorem k_notin (hu : X.A.units + 65 < cLine) : Cmp1 X .notin .NotIn := ⟨_, op_notInU hu, pur_notin⟩
theorem k_is : Cmp1 X .is .Is := ⟨_, op_isN, pur_is⟩
theorem k_isnot : Cmp1 X .isnot .IsNot := ⟨_, op_notN, pur_isnot⟩
theorem k_add : Bin1 X .add .Add := ⟨_, op_addU, pur_add⟩
theorem k_sub : Bin1 X .sub .Sub := ⟨_, op_sub, pur_sub⟩
theorem k_mul : Bin1 X .mul .Mult := ⟨_, op_mul, pur_mul⟩
theorem k_fdiv : Bin1 X .fdiv .FloorDiv := ⟨_, op_fdiv, pur_fdiv⟩
theorem k_mod : Bin1 X .mod .Mod := ⟨_, op_mod, pur_mod⟩
theorem v_bin {o : BOp} {op : Operator} (k : Bin1 X o op) (q : Two X cl a b fa fb) : PEv X cl .n (.BinOp a op b pos) (fBin o fa fb) := by
  obtain ⟨r, h1, h2⟩ := k.ex
  exact pv_ops h2 (fun _ _ ha hb => pe_op h1 ha hb) q
theorem v_cmp {o : COp} {op : CmpOp} (k : Cmp1 X o op) (q : Two X cl a b fa fb) (hm : behindInMarks op b = false) : PEv X cl .n (.Compare a [op] [b] pos) (fCmp o fa fb) := by
  obtain ⟨r, h1, h2⟩ := k.ex
  exact pv_ops h2 (fun _ _ ha hb => pe_cmpR h1 ha hb hm) q
theorem t_cmp {o : COp} {op : CmpOp} (k : Cmp1 X o op) (q : Two X cl a b fa fb) (hm : behindInMarks op b = false) : PTv X cl (.Compare a [op] [b] pos) (fCmp o fa fb) := by
  obtain ⟨r, h1, h2⟩ := k.ex
  exact pt_ops h2 (fun _ _ ha hb => pt_cmpR h1 ha hb hm) q
def fChain (o o' : COp) (f g h : Fe) : Fe := fChn (dCmp o) (dCmp o') f g h
theorem v_chn {o o' : COp} {op op' : CmpOp} (k : Cmp1 X o op) (k' : Cmp1 X o' op') (ha : PEv X cl .b a fa) (hb : PEv X cl .b b fb) (hc : PEv X cl .t c fc) (hm : lastMarks [op, op'] [b, c] = false) : PEv X cl .n (.Compare a [op, op'] [b, c] pos) (fChain o o' fa fb fc) := by
  obtain ⟨r, h1, h2⟩ := k.ex
  obtain ⟨r', h1', h2'⟩ := k'.ex
  exact pv_chn h2 h2' (fun _ _ _ ha hb hc => pe_chain h1 h1' ha hb hc hm) ha hb hc
theorem t_chn {o o' : COp} {op op' : CmpOp} (k : Cmp1 X o op) (k' : Cmp1 X o' op') (ha : PEv X cl .b a fa) (hb : PEv X cl .b b fb) (hc : PEv X cl .t c fc) (hm : lastMarks [op, op'] [b, c] = false) : PTv X cl (.Compare a [op, op'] [b, c] pos) (fChain o o' fa fb fc) := by
  obtain ⟨r, h1, h2⟩ := k.ex
  obtain ⟨r', h1', h2'⟩ := k'.ex
  exact pt_chn h2 h2' (fun _ _ _ ha hb hc => pt_chain h1 h1' ha hb hc hm) ha hb hc
theorem v_neg (ha : PEv X cl .s a fa) : PEv X cl .n (.UnaryOp .USub a pos) (fNeg fa) := PE.imp (pe_un un_neg ha) fun σ H Q => by
  rintro ⟨W, env, sto, d, sto', R, hf, k⟩
  obtain ⟨x, e1, e2⟩ := f1_some hf
  refine ⟨W, env, sto, x, sto', R, e1, fun W1 H1 v le1 R1 r1 => ?_⟩
  split at e2
  · rename_i i
    cases e2
    unfold Res Rep at r1
    exact ⟨i, r1, k W1 H1 _ le1 R1 (.inl ⟨by simp [Rep], rfl⟩)⟩
  · cases e2
theorem v_idx (hs : PlainIx b) (q : Two X cl a b fa fb) : PEv X cl .s (.Subscript a b pos) (f2 fa fb dIdx) := pv_idx ix1_U ix_U hs q
/-! ### constants -/
theorem pp_int {i : Int} {j : Nat} : PEp X cl (.Constant (.int i) j pos) (fC (.int i)) := pp_const pe_int fun W => by simp [Rep]
theorem pp_bl {i : Bool} {j : Nat} : PEp X cl (.Constant (.bool i) j pos) (fC (.bl i)) := pp_const pe_bl fun W => by simp [Rep]
theorem pp_non {j : Nat} : PEp X cl (.Constant .none j pos) (fC .non) := pp_const pe_non fun W => by simp [Rep]
theorem pp_str {x : Str} {j : Nat} : PEp X cl (.Constant (.str x) j pos) (fC (.str x)) := pp_const pe_str fun W => by simp [Rep]
theorem st_c {d : D} : ∀ (env : Env) (sto : Sto) (d' : D) (s' : Sto), fC d env sto = some (d', s') → s' = sto := st_const
theorem pp_gint {x : Str} {i : Int} {t : Tok} (hg : Gl X x) (hm : X.mg x = some (.int i t)) (hd : (x == ("__debug__" : Str)) = false) : PEp X cl (.Name x pos) (fC (.int i)) := pp_const (v := .int i) (pe_glob hg hm ⟨_, rfl⟩ hd) fun W => by simp [Rep]
theorem pp_gstr {x : Str} {i : Str} {t : Tok} (hg : Gl X x) (hm : X.mg x = some (.str i t)) (hd : (x == ("__debug__" : Str)) = false) : PEp X cl (.Name x pos) (fC (.str i)) := pp_const (v := .str i) (pe_glob hg hm ⟨_, rfl⟩ hd) fun W => by simp [Rep]
/-! ### built-in functions -/
theorem star1 (hp : plainE a = true) {env : PySem.Env} : starEach [a] env = (false, eval a env) :: starEach [] env := star_cons hp
theorem v_len (hg : Gl X "len") (hm : X.mg "len" = none) (hp : plainE a = true) (ha : PEv X cl .t a fa) : PEv X cl .n (.Call (.Name "len" p) [a] [] pos) (f1 fa (dFn1 .len)) := pv_fn1 pc_len (fun _ h => pe_callB cr_len hg hm PySem.boot_len h (by decide) (by decide) (star1 hp) rfl) hp ha
theorem v_list (hg : Gl X "list") (hm : X.mg "list" = none) (hp : plainE a = true) (ha : PEv X cl .t a fa) : PEv X cl .n (.Call (.Name "list" p) [a] [] pos) (f1 fa (dFn1 .list)) := pv_fn1 pc_list (fun _ h => pe_callTy call_list_of hg hm (by decide +kernel) h (by decide) (by decide) (star1 hp) rfl) hp ha
theorem v_tuple (hg : Gl X "tuple") (hm : X.mg "tuple" = none) (hp : plainE a = true) (ha : PEv X cl .t a fa) : PEv X cl .n (.Call (.Name "tuple" p) [a] [] pos) (f1 fa (dFn1 .tuple)) := pv_fn1 pc_tuple (fun _ h => pe_callTy call_tuple_of hg hm (by decide +kernel) h (by decide) (by decide) (star1 hp) rfl) hp ha
theorem v_int (hg : Gl X "int") (hm : X.mg "int" = none) (hp : plainE a = true) (ha : PEv X cl .t a fa) : PEv X cl .n (.Call (.Name "int" p) [a] [] pos) (f1 fa (dFn1 .int)) := pv_fn1 pc_int (fun _ h => pe_callTy call_int1 hg hm (by decide +kernel) h (by decide) (by decide) (star1 hp) rfl) hp ha
theorem v_str (hg : Gl X "str") (hm : X.mg "str" = none) (hp : plainE a = true) (ha : PEv X cl .t a fa) : PEv X cl .n (.Call (.Name "str" p) [a] [] pos) (f1 fa (dFn1 .str)) := pv_fn1 pc_str (fun _ h => pe_callTy call_str_int hg hm (by decide +kernel) h (by decide) (by decide) (star1 hp) rfl) hp ha
theorem v_any (hg : Gl X "any") (hm : X.mg "any" = none) (hc : X.calm = true) (hp : plainE a = true) (ha : PEv X cl .t a fa) : PEv X cl .n (.Call (.Name "any" p) [a] [] pos) (f1 fa (dFn1 .any)) := pv_fn1 pc_any (fun _ h => pe_callB (cr_any hc) hg hm (by decide +kernel) h (by decide) (by decide) (star1 hp) rfl) hp ha
theorem v_all (hg : Gl X "all") (hm : X.mg "all" = none) (hc : X.calm = true) (hp : plainE a = true) (ha : PEv X cl .t a fa) : PEv X cl .n (.Call (.Name "all" p) [a] [] pos) (f1 fa (dFn1 .all)) := pv_fn1 pc_all (fun _ h => pe_callB (cr_all hc) hg hm (by decide +kernel) h (by decide) (by decide) (star1 hp) rfl) hp ha
theorem v_sum (hg : Gl X "sum") (hm : X.mg "sum" = none) (hc : X.calm = true) (hp : plainE a = true) (ha : PEv X cl .t a fa) : PEv X cl .n (.Call (.Name "sum" p) [a] [] pos) (f1 fa (dFn1 .sum)) := pv_fn1 pc_sum (fun _ h => pe_callB (cr_sum hc) hg hm (by decide +kernel) h (by decide) (by decide) (star1 hp) rfl) hp ha
theorem v_abs (hg : Gl X "abs") (hm : X.mg "abs" = none) (hp : plainE a = true) (ha : PEv X cl .t a fa) : PEv X cl .n (.Call (.Name "abs" p) [a] [] pos) (f1 fa (dFn1 .abs)) := pv_fn1 pc_abs (fun _ h => pe_callB call_abs hg hm (by decide +kernel) h (by decide) (by decide) (star1 hp) rfl) hp ha
theorem v_ord (hg : Gl X "ord") (hm : X.mg "ord" = none) (hp : plainE a = true) (ha : PEv X cl .t a fa) : PEv X cl .n (.Call (.Name "ord" p) [a] [] pos) (f1 fa (dFn1 .ord)) := pv_fn1 pc_ord (fun _ h => pe_callB call_ord hg hm (by decide +kernel) h (by decide) (by decide) (star1 hp) rfl) hp ha
theorem star2 (hp : plainE a = true) (hp2 : plainE b = true) {env : PySem.Env} : (backTo pos (starEach [b] env)).any (·.1) = false := star_any (by simp [hp2])
theorem v_min (hg : Gl X "min") (hm : X.mg "min" = none) (hc : X.calm = true) (hp : plainE a = true) (hp2 : plainE b = true) (q : Two X cl a b fa fb) : PEv X cl .n (.Call (.Name "min" p) [a, b] [] pos) (f2 fa fb (dFn2 .min2)) := pv_fn2 pc_min2 (fun _ h => pe_callB (call_min2 hc) hg hm (by decide +kernel) h (by decide) (by decide) (star_cons hp) (star2 hp hp2)) hp hp2 q
theorem v_max (hg : Gl X "max") (hm : X.mg "max" = none) (hc : X.calm = true) (hp : plainE a = true) (hp2 : plainE b = true) (q : Two X cl a b fa fb) : PEv X cl .n (.Call (.Name "max" p) [a, b] [] pos) (f2 fa fb (dFn2 .max2)) := pv_fn2 pc_max2 (fun _ h => pe_callB (call_max2 hc) hg hm (by decide +kernel) h (by decide) (by decide) (star_cons hp) (star2 hp hp2)) hp hp2 q
theorem boot_tn (t : TyN) : bootBuiltins t.nm = some (.type t.nm) := by cases t <;> decide +kernel
theorem v_isi {t : TyN} (hg : Gl X "isinstance") (hm : X.mg "isinstance" = none) (hg2 : Gl X t.nm) (hm2 : X.mg t.nm = none) (hp : plainE a = true) (ha : PEv X cl .t a fa) : PEv X cl .n (.Call (.Name "isinstance" p) [a, .Name t.nm p2] [] pos) (f1 fa fun d => (dIsi t d).map .bl) :=
  pv_isi (fun _ h => pe_callB call_isi hg hm (by decide +kernel) h (by decide) (by decide) (star_cons hp) (star2 hp rfl)) (pe_bltn hg2 hm2 (boot_tn t) (by cases t <;> rfl) (by cases t <;> decide) (by cases t <;> decide)) hp rfl ha
end
section
variable {P : Program} {w : World} {K : PySem.W.Frag} {mg : Str → Option Value} {base : Heap} {cl : Nat → Option Addr}
/-- a name of our own is handed back, to stay as it is -/
theorem vs_retf {X : Cx} {cl : Nat → Option Addr} {a : Expr} {pos : Pos} {i : Nat} (ha : PE X a (tVar i)) : PSv X cl false (.Return (some a) pos) (xRetv i) := PS.imp (ps_ret ha) fun Dn σ H => by
  rintro ⟨W, env, sto, o, R, hf, k⟩
  unfold xRetv at hf
  split at hf
  · rename_i d h1
    cases hf
    obtain ⟨v, q1, p, o, rfl, g1, g2, g3, g4⟩ := R.e.cell i _ h1
    refine ⟨_, q1, k (W.frz p o) H (frz_ext g3) _ (relS_frz R.s g1 g3 g4 (R.e.sepE i d p h1 q1) fun n f => R.e.sepF i d p n f h1 q1) ?_⟩
    exact rep_frz g3 (.inl g2)
  · cases hf
/-- nothing is promised of a call that does not come -/
theorem fn_h0 {x qual : Str} {st : Stmt} {f : Addr} {fd : FuncData} {ps : List Str} {i : Nat} {ro : Bool} {R : Run} (F : Fun K x qual st f fd) (hb : Binds K fd ps []) (hR : ∀ cs s, R i cs s = none) : FnH0 P w K mg base cl R i ro 0 f := by
  refine ⟨fd, ps, ⟨fun vs H Q E h => h.1, fun A outer s H args us vs Q E hr he hb' hv h => ?_⟩, hb, fun cs s r h => by rw [hR] at h; cases h⟩
  obtain ⟨_, W, sto, cs, d, sto', _, _, h, _⟩ := h
  rw [hR] at h
  cases h
/-- the state keeps its promise -/
theorem state_ok {x qual : Str} {st : Stmt} {f : Addr} {fd : FuncData} {N ps : List Str} {k : Nat} {s0 mul : Int} (F : Fun K x qual st f fd) (S : FnScope N ps (defScope st)) (hnp : ps.length = 1) (hN : N.length = 3) (hmul : -(2 ^ 64) < mul ∧ mul < 2 ^ 64)
    (body : ∀ (cdv : Value) (A : Around) (outer : List PySem.Env) (s : Shared) (H : Hp) (E : XK), Room k (A.deeper (PyProof.Rows.envOfC qual (defScope st) s.heap.objs.size f cdv)) →
      PSs (cxOf CX0 P w K mg base N qual (defScope st) f cdv A outer s H E).nox (defBody st) (tState K s0 mul)) : FnOk P w K mg base CX0 (k + 1) f fd ps (spState K) := by
  refine F.ok S (fun vs H Q E h => by obtain ⟨a, ns, rfl, _⟩ := h; rw [hnp]; rfl) (fun cdv A outer s H vs Q E hr h => ?_)
  refine ⟨_, body cdv A outer s H E hr, ?_⟩
  obtain ⟨a, ns, rfl, hs, hl, kk⟩ := h
  have e : L2.start N [V.ref a] = [some (.ref a), none, none] := by
    unfold L2.start
    rw [hN]
    rfl
  rw [e]
  exact state_run hmul hs hl kk
def spLaw (K : PySem.W.Frag) : Sp := fun vs H Q _ => ∃ (a : Addr) (ns : List Int), vs = [.ref a] ∧ SqL K H a (ns.map V.int) ∧ ns.length ≤ 63 ∧ Only H ∧ ∀ H', Q (.bl true) H'
/-- THE END: the law's own def. The name with the state stands in slot 1 -/
theorem law_ok {x qual : Str} {st : Stmt} {f : Addr} {fd : FuncData} {N ps : List Str} {k : Nat} {Fb : Fs} (F : Fun K x qual st f fd) (S : FnScope N ps (defScope st)) (hnp : ps.length = 1) (hN : 2 ≤ N.length)
    (run : ∀ cells seed, ∃ s, Fb (none :: some (.val (.obj 0)) :: List.replicate (N.length - 2) none) [.drw cells seed] = some (.rt (.bl true) s))
    (body : ∀ (cdv : Value) (A : Around) (outer : List PySem.Env) (s : Shared) (H : Hp) (E : XK), Room k (A.deeper (PyProof.Rows.envOfC qual (defScope st) s.heap.objs.size f cdv)) →
      PSs (cxOf CX0 P w K mg base N qual (defScope st) f cdv A outer s H E).nox (defBody st) (tSeq (tAsg (tCall (spState K) [] E0 (tCons (tVar 0) tNil)) (gName 1)) (tS K w cl false Fb))) : FnOk P w K mg base CX0 (k + 1) f fd ps (spLaw K) := by
  refine F.ok S (fun vs H Q E h => by obtain ⟨a, ns, rfl, _⟩ := h; rw [hnp]; rfl) (fun cdv A outer s H vs Q E hr h => ?_)
  refine ⟨_, body cdv A outer s H E hr, ?_⟩
  obtain ⟨a, ns, rfl, hs, hl, hO, kk⟩ := h
  have e : L2.start N [V.ref a] = some (.ref a) :: none :: List.replicate (N.length - 2) none := by
    unfold L2.start
    have : N.length - [V.ref a].length = (N.length - 2) + 1 := by show N.length - 1 = _; omega
    rw [this, List.replicate_succ]
    rfl
  rw [e]
  refine ⟨_, rfl, a, ns, rfl, hs, hl, fun p q seed cells H' sm hp hq npq k1 k2 => ?_⟩
  obtain ⟨s', hrun⟩ := run cells seed
  have own : ∀ n f u, FOwn { F := fun _ => none, P := fun _ => none, L := fun _ => none, E := [q] } [.drw cells seed] H' n f u → n = 0 ∧ f = 0 ∧ u = p := fun n f u ⟨b, hb, h⟩ => by
    have hn : n = 0 := by
      have := (List.getElem?_eq_some_iff.mp hb).1
      simpa using this
    subst hn
    simp only [List.getElem?_cons_zero, Option.some.injEq] at hb
    subst hb
    rcases h with ⟨c', fs', y, d1, C', dx', vs', z, g1, g2, g3, g4⟩ | ⟨cs, sd, g1, g2, g3⟩
    · cases g1
    · rw [k1] at g2
      cases g2
      exact ⟨rfl, g3, rfl⟩
  have RS : RelS K w cl { F := fun _ => none, P := fun _ => none, L := fun _ => none, E := [q] } [.drw cells seed] H' := by
    refine ⟨fun b o h => (nomatch h), fun b o h => (nomatch h), fun b o h => (nomatch h), fun b o h => (nomatch h), fun b o h => (nomatch h), rfl, by simp, fun b h => ⟨rfl, rfl⟩, fun n s0 b h1 h2 => ?_, fun n f n' f' u h1 h2 => ?_, fun n f u h => ?_⟩
    · have hn : n = 0 := by
        have := (List.getElem?_eq_some_iff.mp h1).1
        simpa using this
      subst hn
      simp only [List.getElem?_cons_zero, Option.some.injEq] at h1 h2
      subst h1; subst h2
      exact ⟨p, k1, k2, rfl, rfl⟩
    · obtain ⟨a1, a2, _⟩ := own _ _ _ h1
      obtain ⟨b1, b2, _⟩ := own _ _ _ h2
      exact ⟨a1.trans b1.symm, a2.trans b2.symm⟩
    · obtain ⟨_, _, rfl⟩ := own _ _ _ h
      simpa using npq
  have none2 : ∀ (j : Nat) (c : Cell), (none :: some (Cell.val (.obj 0)) :: List.replicate (N.length - 2) none)[j]? = some (some c) → j = 1 ∧ c = .val (.obj 0) := fun j c h => by
    match j, h with
    | 0, h => cases h
    | 1, h =>
      simp only [List.getElem?_cons_succ, List.getElem?_cons_zero, Option.some.injEq] at h
      exact ⟨rfl, h.symm⟩
    | j + 2, h =>
      simp only [List.getElem?_cons_succ, List.getElem?_replicate] at h
      split at h <;> cases h
  refine ⟨_, _, _, _, (⟨RS, ⟨by simp, fun j c h => ?_, fun i j d d' u h => ?_, fun i d u n f h => ?_, fun i d u h => ?_⟩⟩ : Rel K w cl _ (none :: some (Cell.val (.obj 0)) :: List.replicate (N.length - 2) none) _ _ H'), hrun, fun W' H2 le v R' r => ?_⟩
  · obtain ⟨rfl, rfl⟩ := none2 j c h
    exact ⟨.ref q, rfl, by show Rep K w _ (.obj 0) _; unfold Rep; exact ⟨q, rfl, rfl⟩⟩
  · cases (none2 _ _ h).2
  · cases (none2 _ _ h).2
  · cases (none2 _ _ h).2
  · have r : Rep K w W' (.bl true) v := r
    unfold Rep at r
    subst r
    exact kk H2
end
theorem look_mem {α : Type} : ∀ {l : List (Str × α)} {x : Str} {a : α}, l.lookup x = some a → (x, a) ∈ l
  | (y, b) :: r, x, a, h => by
    rw [List.lookup_cons] at h
    cases e : x == y with
    | true =>
      rw [e] at h
      simp only at h
      cases h
      have : x = y := by simpa using e
      subst this
      exact List.mem_cons_self
    | false =>
      rw [e] at h
      exact List.mem_cons_of_mem _ (look_mem h)
theorem getD_mem {α : Type} {l : List α} {c : Nat} {d : α} : l.getD c d ∈ l ∨ l.getD c d = d := by
  rw [List.getD_eq_getElem?_getD]
  cases e : l[c]? with
  | none => exact .inr rfl
  | some x => exact .inl (List.mem_of_getElem? e)
/-- all methods of a name hand back alike -/
theorem ro_all {mts : List (List (Str × Nat))} {ro : Nat → Bool} {m : Str} {rr : Bool} (h : (mts.all fun l => match l.lookup m with | some i => ro i == rr | none => true) = true) (c i : Nat) (e : (mts.getD c []).lookup m = some i) : ro i = rr := by
  rcases getD_mem (l := mts) (c := c) (d := []) with q | q
  · have z := List.all_eq_true.mp h _ q
    rw [e] at z
    simpa using z
  · rw [q] at e
    cases e
end PI
/-! what the plain laws use -/
namespace PI
open PySem L2
theorem drawA_in (cells : List Int) (seed m : Int) : ∃ v c s, drawA cells seed m = (v, c, s) ∧ (0 < m → 0 ≤ v ∧ v < m) ∧ (m ≤ 0 → v = 0) := by
  unfold drawA
  split
  · exact ⟨_, _, _, rfl, fun h => by omega, fun _ => rfl⟩
  · rename_i h
    have hm : 0 < m := by omega
    split
    · exact ⟨_, _, _, rfl, fun _ => ⟨Int.emod_nonneg _ (by omega), Int.emod_lt_of_pos _ hm⟩, fun h => by omega⟩
    · exact ⟨_, _, _, rfl, fun _ => ⟨Int.emod_nonneg _ (by omega), Int.emod_lt_of_pos _ hm⟩, fun h => by omega⟩
theorem forL_inv {t : Tg} {f : Fs} (P : Nat → Env → Sto → Prop) : ∀ (ds : List D) (i : Nat) (env : Env) (s : Sto), P i env s →
    (∀ j d env s, ds[j]? = some d → P (i + j) env s → ∃ e1 e2 s2, tgSet t d env = some e1 ∧ (f e1 s = some (.nx e2 s2) ∨ f e1 s = some (.ct e2 s2)) ∧ P (i + j + 1) e2 s2) →
    ∃ e' s', forL t f ds env s = some (.nx e' s') ∧ P (i + ds.length) e' s'
  | [], i, env, s, h, _ => ⟨env, s, rfl, h⟩
  | d :: r, i, env, s, h, k => by
    obtain ⟨e1, e2, s2, h1, h2, h3⟩ := k 0 d env s rfl h
    obtain ⟨e', s', h4, h5⟩ := forL_inv P r (i + 1) e2 s2 h3 fun j d' env s hj hp => by
      have := k (j + 1) d' env s (by simpa using hj) (by rw [show i + (j + 1) = i + 1 + j by omega]; exact hp)
      rw [show i + (j + 1) + 1 = i + 1 + j + 1 by omega] at this
      exact this
    refine ⟨e', s', ?_, by rw [List.length_cons, show i + (r.length + 1) = i + 1 + r.length by omega]; exact h5⟩
    unfold forL
    rw [h1]
    rcases h2 with h2 | h2
    · simp only [h2]; exact h4
    · simp only [h2]; exact h4
/-! ### running -/
@[simp] theorem e_f1 (f : Fe) (k : D → Option D) (env : Env) (s : Sto) : f1 f k env s = (match f env s with
    | some (a, s) => (k a).map (·, s)
    | none => none) := Eq.trans rfl rfl
@[simp] theorem e_f2 (f g : Fe) (k : D → D → Option D) (env : Env) (s : Sto) : f2 f g k env s = (match f env s with
    | some (a, s) => match g env s with
      | some (b, s) => (k a b).map (·, s)
      | none => none
    | none => none) := Eq.trans rfl rfl
@[simp] theorem e_fVar (i : Nat) (env : Env) (s : Sto) : fVar i env s = (match env[i]? with
    | some (some (.val d)) => some (d, s)
    | _ => none) := Eq.trans rfl rfl
@[simp] theorem e_fB (i : Nat) (env : Env) (s : Sto) : fB i env s = (match env[i]? with
    | some (some c) => some (c.d, s)
    | _ => none) := Eq.trans rfl rfl
@[simp] theorem e_fldOf (fl : Nat → Str → Bool) (x : Str) (f : Fe) (own : Bool) (env : Env) (s : Sto) : fldOf fl x f own env s = (match f env s with
    | some (.obj n, s) => match s[n]? with
      | some (.ins c fs) => if fl c x then match fs.lookup x with
        | some (.val d) => some (d, s)
        | some c => if own then some (c.d, s) else none
        | none => none else none
      | _ => none
    | _ => none) := Eq.trans rfl rfl
@[simp] theorem e_fChn (p q : D → D → Option Bool) (f g h : Fe) (env : Env) (s : Sto) : fChn p q f g h env s = (match f env s with
    | some (a, s) => match g env s with
      | some (b, s) => match p a b with
        | some true => match h env s with
          | some (c, s) => (q b c).map (.bl ·, s)
          | none => none
        | some false => some (.bl false, s)
        | none => none
      | none => none
    | none => none) := Eq.trans rfl rfl
@[simp] theorem e_fNot (f : Fe) (env : Env) (s : Sto) : fNot f env s = (match f env s with
    | some (.bl b, s) => some (.bl (!b), s)
    | _ => none) := Eq.trans rfl rfl
@[simp] theorem e_fAnd (f g : Fe) (env : Env) (s : Sto) : fAnd f g env s = (match f env s with
    | some (.bl true, s) => g env s
    | some (.bl false, s) => some (.bl false, s)
    | _ => none) := Eq.trans rfl rfl
@[simp] theorem e_fOr (f g : Fe) (env : Env) (s : Sto) : fOr f g env s = (match f env s with
    | some (.bl true, s) => some (.bl true, s)
    | some (.bl false, s) => g env s
    | _ => none) := Eq.trans rfl rfl
@[simp] theorem e_fIf (t f g : Fe) (env : Env) (s : Sto) : fIf t f g env s = (match t env s with
    | some (.bl true, s) => f env s
    | some (.bl false, s) => g env s
    | _ => none) := Eq.trans rfl rfl
@[simp] theorem e_fCons (f : Fe) (g : Fl) (env : Env) (s : Sto) : fCons f g env s = (match f env s with
    | some (d, s) => match g env s with
      | some (ds, s) => some (d :: ds, s)
      | none => none
    | none => none) := Eq.trans rfl rfl
@[simp] theorem e_fTup (g : Fl) (env : Env) (s : Sto) : fTup g env s = (match g env s with
    | some (ds, s) => if ds.length ≤ LIM then some (.tup ds, s) else none
    | none => none) := Eq.trans rfl rfl
@[simp] theorem e_fLst (g : Fl) (env : Env) (s : Sto) : fLst g env s = (match g env s with
    | some (ds, s) => if ds.length ≤ LIM then some (.lst ds, s) else none
    | none => none) := Eq.trans rfl rfl
@[simp] theorem e_fPart (f : Fe) (env : Env) (s : Sto) : fPart f env s = (match f env s with
    | some (.int i, s) => some (some i, s)
    | _ => none) := Eq.trans rfl rfl
@[simp] theorem e_fCut (f : Fe) (g h : Fo) (env : Env) (s : Sto) : fCut f g h env s = (match f env s with
    | some (a, s) => match g env s with
      | some (l, s) => match h env s with
        | some (u, s) => (dCut a l u).map (·, s)
        | none => none
      | none => none
    | none => none) := Eq.trans rfl rfl
@[simp] theorem e_aB (i : Nat) (g : Fa) (env : Env) (s : Sto) : aB i g env s = (match env[i]? with
    | some (some c) => match g env s with
      | some (cs, s) => some (lk c :: cs, s)
      | none => none
    | _ => none) := Eq.trans rfl rfl
@[simp] theorem e_aV (f : Fe) (g : Fa) (env : Env) (s : Sto) : aV f g env s = (match f env s with
    | some (d, s) => match g env s with
      | some (cs, s) => some (.val d :: cs, s)
      | none => none
    | none => none) := Eq.trans rfl rfl
@[simp] theorem e_fCall (R : Run) (i : Nat) (g : Fa) (env : Env) (s : Sto) : fCall R i g env s = (match g env s with
    | some (cs, s) => R i cs s
    | none => none) := Eq.trans rfl rfl
@[simp] theorem e_fMeth (T : Tab) (R : Run) (m : Str) (f : Fe) (g : Fa) (env : Env) (s : Sto) : fMeth T R m f g env s = (match f env s with
    | some (.obj n, s) => match s[n]? with
      | some (.ins c fs) => match fs.lookup m, T.mt c m with
        | none, some i => match g env s with
          | some (cs, s) => R i (.val (.obj n) :: cs) s
          | none => none
        | _, _ => none
      | _ => none
    | _ => none) := Eq.trans rfl rfl
@[simp] theorem e_fMk (T : Tab) (R : Run) (c : Nat) (g : Fa) (env : Env) (s : Sto) : fMk T R c g env s = (match g env s with
    | some (cs, s) => match T.ini c with
      | some i => match R i (.val (.obj s.length) :: cs) (s ++ [.ins c []]) with
        | some (.non, s') => some (.obj s.length, s')
        | _ => none
      | none => none
    | none => none) := Eq.trans rfl rfl
@[simp] theorem e_fFm (fl : Nat → Str → Bool) (m : FM) (f : Fe) (x : Str) (g : Fl) (env : Env) (s : Sto) : fFm fl m f x g env s = (match f env s with
    | some (.obj n, s) => match s[n]? with
      | some (.ins c fs) => if fl c x then match fs.lookup x with
        | some (.own (.lst _)) => match g env s with
          | some (ds, s) => match s[n]? with
            | some (.ins c fs) => match fs.lookup x with
              | some (.own (.lst ys)) => match dFm m ys ds with
                | some (r, ys') => some (r, s.set n (.ins c (setFd x (.own (.lst ys')) fs)))
                | none => none
              | _ => none
            | _ => none
          | none => none
        | _ => none else none
      | _ => none
    | _ => none) := Eq.trans rfl rfl
@[simp] theorem e_fNil (env : Env) (s : Sto) : fNil  env s = (some ([], s)) := Eq.trans rfl rfl
@[simp] theorem e_aNil (env : Env) (s : Sto) : aNil  env s = (some ([], s)) := Eq.trans rfl rfl
@[simp] theorem e_oNil (env : Env) (s : Sto) : oNil  env s = (some (none, s)) := Eq.trans rfl rfl
@[simp] theorem e_fC (d : D) (env : Env) (s : Sto) : fC d env s = (some (d, s)) := Eq.trans rfl rfl
@[simp] theorem e_xSeq (f g : Fs) (env : Env) (s : Sto) : xSeq f g env s = (match f env s with
    | some (.nx e s) => g e s
    | r => r) := Eq.trans rfl rfl
@[simp] theorem e_xAsg (t : Tg) (f : Fe) (env : Env) (s : Sto) : xAsg t f env s = (match f env s with
    | some (d, s) => (tgSet t d env).map (.nx · s)
    | none => none) := Eq.trans rfl rfl
@[simp] theorem e_xOwn (i : Nat) (f : Fe) (env : Env) (s : Sto) : xOwn i f env s = (match f env s with
    | some (d, s) => if d.isLD then some (.nx (env.set i (some (.own d))) s) else none
    | none => none) := Eq.trans rfl rfl
@[simp] theorem e_xSet (fl : Nat → Str → Bool) (own : Bool) (f : Fe) (x : Str) (g : Fe) (env : Env) (s : Sto) : xSet fl own f x g env s = (match g env s with
    | some (d, s) => match f env s with
      | some (.obj n, s) => match s[n]? with
        | some (.ins c fs) => if fl c x && decide (fs.length < 900) && (!own || d.isLD) then some (.nx env (s.set n (.ins c (setFd x (if own then .own d else .val d) fs)))) else none
        | _ => none
      | _ => none
    | none => none) := Eq.trans rfl rfl
@[simp] theorem e_xExpr (f : Fe) (env : Env) (s : Sto) : xExpr f env s = (match f env s with
    | some (_, s) => some (.nx env s)
    | none => none) := Eq.trans rfl rfl
@[simp] theorem e_xRet (f : Fe) (env : Env) (s : Sto) : xRet f env s = (match f env s with
    | some (d, s) => some (.rt d s)
    | none => none) := Eq.trans rfl rfl
@[simp] theorem e_xRetv (i : Nat) (env : Env) (s : Sto) : xRetv i env s = (match env[i]? with
    | some (some (.own d)) => some (.rt d s)
    | _ => none) := Eq.trans rfl rfl
@[simp] theorem e_xIf (t : Fe) (f g : Fs) (env : Env) (s : Sto) : xIf t f g env s = (match t env s with
    | some (.bl true, s) => f env s
    | some (.bl false, s) => g env s
    | _ => none) := Eq.trans rfl rfl
@[simp] theorem e_xSm (t : Option Nat) (m : FM) (i : Nat) (g : Fl) (env : Env) (s : Sto) : xSm t m i g env s = (match g env s with
    | some (ds, s) => match env[i]? with
      | some (some (.own (.lst ys))) => match dFm m ys ds with
        | some (r, ys') => some (.nx (setT t r (env.set i (some (.own (.lst ys'))))) s)
        | none => none
      | _ => none
    | none => none) := Eq.trans rfl rfl
@[simp] theorem e_xLput (i : Nat) (k f : Fe) (env : Env) (s : Sto) : xLput i k f env s = (match f env s with
    | some (d, s) => match k env s with
      | some (.int j, s) => match env[i]? with
        | some (some (.own (.lst ys))) => match ixOf ys.length j with
          | some n => some (.nx (env.set i (some (.own (.lst (ys.set n d))))) s)
          | none => none
        | _ => none
      | _ => none
    | none => none) := Eq.trans rfl rfl
@[simp] theorem e_iL (f : Fe) (env : Env) (s : Sto) : iL f env s = (match f env s with
    | some (.lst ds, s) => some (ds, s)
    | _ => none) := Eq.trans rfl rfl
@[simp] theorem e_iT (f : Fe) (env : Env) (s : Sto) : iT f env s = (match f env s with
    | some (.tup ds, s) => some (ds, s)
    | _ => none) := Eq.trans rfl rfl
@[simp] theorem e_iS (f : Fe) (env : Env) (s : Sto) : iS f env s = (match f env s with
    | some (.str x, s) => some (strIts x, s)
    | _ => none) := Eq.trans rfl rfl
@[simp] theorem e_iB (i : Nat) (env : Env) (s : Sto) : iB i env s = (match env[i]? with
    | some (some (.val (.lst ds))) => some (ds, s)
    | some (some (.lck (.lst ds))) => some (ds, s)
    | _ => none) := Eq.trans rfl rfl
@[simp] theorem e_iRng1 (f : Fe) (env : Env) (s : Sto) : iRng1 f env s = (match f env s with
    | some (.int b, s) => if okR b then some (rngIts 0 b, s) else none
    | _ => none) := Eq.trans rfl rfl
@[simp] theorem e_iRng2 (f g : Fe) (env : Env) (s : Sto) : iRng2 f g env s = (match f env s with
    | some (.int a, s) => match g env s with
      | some (.int b, s) => if okR a && okR b then some (rngIts a b, s) else none
      | _ => none
    | _ => none) := Eq.trans rfl rfl
@[simp] theorem e_xFor (t : Tg) (i : Fi) (f : Fs) (env : Env) (s : Sto) : xFor t i f env s = (match i env s with
    | some (ds, s) => forL t f ds env s
    | none => none) := Eq.trans rfl rfl
@[simp] theorem e_xWhile (t : Fe) (f : Fs) (env : Env) (s : Sto) : xWhile t f env s = (whileN t f FUEL env s) := Eq.trans rfl rfl
@[simp] theorem e_xBrk (env : Env) (s : Sto) : xBrk  env s = (some (.bk env s)) := Eq.trans rfl rfl
@[simp] theorem e_xCnt (env : Env) (s : Sto) : xCnt  env s = (some (.ct env s)) := Eq.trans rfl rfl
@[simp] theorem e_xPas (env : Env) (s : Sto) : xPas  env s = (some (.nx env s)) := Eq.trans rfl rfl
@[simp] theorem e_xRetn (env : Env) (s : Sto) : xRetn  env s = (some (.rt .non s)) := Eq.trans rfl rfl
@[simp] theorem e_fNeg (f : Fe) (env : Env) (s : Sto) : fNeg f env s = f1 f (fun x => match x with
    | .int i => some (.int (-i))
    | _ => none) env s := Eq.trans rfl rfl
@[simp] theorem e_fChain (o o' : COp) (f g h : Fe) (env : Env) (s : Sto) : fChain o o' f g h env s = fChn (dCmp o) (dCmp o') f g h env s := Eq.trans rfl rfl
@[simp] theorem e_fBin (o : BOp) (f g : Fe) (env : Env) (s : Sto) : fBin o f g env s = f2 f g (dBin o) env s := Eq.trans rfl rfl
@[simp] theorem e_fCmp (o : COp) (f g : Fe) (env : Env) (s : Sto) : fCmp o f g env s = f2 f g (fun a b => (dCmp o a b).map .bl) env s := Eq.trans rfl rfl
@[simp] theorem e_tgn (i : Nat) (d : D) (env : Env) : tgSet (.n i) d env = some (env.set i (some (.val d))) := Eq.trans rfl rfl
@[simp] theorem e_cd1 (d : D) : (Cell.val d).d = d := Eq.trans rfl rfl
@[simp] theorem e_cd2 (d : D) : (Cell.own d).d = d := Eq.trans rfl rfl
@[simp] theorem e_cd3 (d : D) : (Cell.lck d).d = d := Eq.trans rfl rfl
@[simp] theorem e_lk1 (d : D) : lk (.val d) = .val d := Eq.trans rfl rfl
@[simp] theorem e_lk2 (d : D) : lk (.own d) = .lck d := Eq.trans rfl rfl
@[simp] theorem e_lk3 (d : D) : lk (.lck d) = .lck d := Eq.trans rfl rfl
@[simp] theorem e_st1 (d : D) (e : Env) : setT none d e = e := Eq.trans rfl rfl
@[simp] theorem e_st2 (d : D) (e : Env) (j : Nat) : setT (some j) d e = e.set j (some (.val d)) := Eq.trans rfl rfl
@[simp] theorem e_sf1 (f : Str) (c : Cell) : setFd f c [] = [(f, c)] := Eq.trans rfl rfl
@[simp] theorem e_sf2 (f g : Str) (c x : Cell) (r : List (Str × Cell)) : setFd f c ((g, x) :: r) = if g = f then (g, c) :: r else (g, x) :: setFd f c r := Eq.trans rfl rfl
@[simp] theorem look_c {α : Type} (x y : Str) (a : α) (r : List (Str × α)) : List.lookup x ((y, a) :: r) = if (x == y) = true then some a else List.lookup x r := by
  rw [List.lookup_cons]
  cases x == y <;> rfl
/-! ### data -/
@[simp] theorem d_add1 (i j : Int) : dBin .add (.int i) (.int j) = some (.int (i + j)) := Eq.trans rfl rfl
@[simp] theorem d_add2 (x y : Str) : dBin .add (.str x) (.str y) = if x.length + y.length ≤ LIM then some (.str (x ++ y)) else none := Eq.trans rfl rfl
@[simp] theorem d_add3 (x y : List D) : dBin .add (.lst x) (.lst y) = if x.length + y.length ≤ LIM then some (.lst (x ++ y)) else none := Eq.trans rfl rfl
@[simp] theorem d_add4 (x y : List D) : dBin .add (.tup x) (.tup y) = if x.length + y.length ≤ LIM then some (.tup (x ++ y)) else none := Eq.trans rfl rfl
@[simp] theorem d_sub (i j : Int) : dBin .sub (.int i) (.int j) = some (.int (i - j)) := Eq.trans rfl rfl
@[simp] theorem d_mul (i j : Int) : dBin .mul (.int i) (.int j) = if small i || small j then some (.int (i * j)) else none := Eq.trans rfl rfl
@[simp] theorem d_fdiv (i j : Int) : dBin .fdiv (.int i) (.int j) = if 0 < j ∧ near 1073741824 j = true then some (.int (i / j)) else none := Eq.trans rfl rfl
@[simp] theorem d_mod (i j : Int) : dBin .mod (.int i) (.int j) = if 0 < j then some (.int (i % j)) else none := Eq.trans rfl rfl
@[simp] theorem d_eq0 (a b : D) : dCmp .eq a b = dEq a b := Eq.trans rfl rfl
@[simp] theorem d_ne0 (a b : D) : dCmp .ne a b = (dEq a b).map (!·) := Eq.trans rfl rfl
@[simp] theorem d_eqi (i j : Int) : dEq (.int i) (.int j) = some (decide (i = j)) := Eq.trans rfl rfl
@[simp] theorem d_eqb (i j : Bool) : dEq (.bl i) (.bl j) = some (i == j) := Eq.trans rfl rfl
@[simp] theorem d_eqs (i j : Str) : dEq (.str i) (.str j) = some (decide (i = j)) := Eq.trans rfl rfl
@[simp] theorem d_eqn : dEq .non .non = some true := Eq.trans rfl rfl
@[simp] theorem d_eqns (i : Str) : dEq .non (.str i) = some false := Eq.trans rfl rfl
@[simp] theorem d_eqsn (i : Str) : dEq (.str i) .non = some false := Eq.trans rfl rfl
@[simp] theorem d_eqni (i : Int) : dEq .non (.int i) = some false := Eq.trans rfl rfl
@[simp] theorem d_eqin (i : Int) : dEq (.int i) .non = some false := Eq.trans rfl rfl
@[simp] theorem d_lt1 (i j : Int) : dCmp .lt (.int i) (.int j) = some (decide (i < j)) := Eq.trans rfl rfl
@[simp] theorem d_le1 (i j : Int) : dCmp .le (.int i) (.int j) = some (decide (i ≤ j)) := Eq.trans rfl rfl
@[simp] theorem d_gt1 (i j : Int) : dCmp .gt (.int i) (.int j) = some (decide (j < i)) := Eq.trans rfl rfl
@[simp] theorem d_ge1 (i j : Int) : dCmp .ge (.int i) (.int j) = some (decide (j ≤ i)) := Eq.trans rfl rfl
@[simp] theorem d_in (a b : D) : dCmp .isin a b = dIn a b := Eq.trans rfl rfl
@[simp] theorem d_ni (a b : D) : dCmp .notin a b = (dIn a b).map (!·) := Eq.trans rfl rfl
@[simp] theorem d_is (a : D) : dCmp .is a .non = some a.isNon := Eq.trans rfl rfl
@[simp] theorem d_isn (a : D) : dCmp .isnot a .non = some (!a.isNon) := Eq.trans rfl rfl
@[simp] theorem d_non1 : D.isNon .non = true := Eq.trans rfl rfl
@[simp] theorem d_non2 (i : Int) : D.isNon (.int i) = false := Eq.trans rfl rfl
@[simp] theorem d_non3 (i : Str) : D.isNon (.str i) = false := Eq.trans rfl rfl
@[simp] theorem d_non4 (i : List D) : D.isNon (.lst i) = false := Eq.trans rfl rfl
@[simp] theorem d_non5 (i : List D) : D.isNon (.tup i) = false := Eq.trans rfl rfl
@[simp] theorem d_non6 (i : Bool) : D.isNon (.bl i) = false := Eq.trans rfl rfl
@[simp] theorem d_len1 (xs : List D) : dFn1 .len (.lst xs) = some (.int xs.length) := Eq.trans rfl rfl
@[simp] theorem d_len2 (xs : List D) : dFn1 .len (.tup xs) = some (.int xs.length) := Eq.trans rfl rfl
@[simp] theorem d_len3 (x : Str) : dFn1 .len (.str x) = if x.length ≤ LIM then some (.int x.length) else none := Eq.trans rfl rfl
@[simp] theorem d_lst1 (xs : List D) : dFn1 .list (.lst xs) = some (.lst xs) := Eq.trans rfl rfl
@[simp] theorem d_lst2 (xs : List D) : dFn1 .list (.tup xs) = some (.lst xs) := Eq.trans rfl rfl
@[simp] theorem d_tup1 (xs : List D) : dFn1 .tuple (.lst xs) = some (.tup xs) := Eq.trans rfl rfl
@[simp] theorem d_tup2 (xs : List D) : dFn1 .tuple (.tup xs) = some (.tup xs) := Eq.trans rfl rfl
@[simp] theorem d_int1 (i : Int) : dFn1 .int (.int i) = some (.int i) := Eq.trans rfl rfl
@[simp] theorem d_int2 (b : Bool) : dFn1 .int (.bl b) = some (.int (if b then 1 else 0)) := Eq.trans rfl rfl
def strI (i : Int) : Str := Str.ofString (toString i)
def strOk (i : Int) : Bool := decide (i.natAbs.log2 < 1920)
@[simp] theorem d_str1 (i : Int) : dFn1 .str (.int i) = if strOk i = true then some (.str (strI i)) else none := by
  unfold strOk
  show (if i.natAbs.log2 < 1920 then _ else _) = _
  by_cases h : i.natAbs.log2 < 1920
  · rw [if_pos h, if_pos (decide_eq_true h)]
    rfl
  · rw [if_neg h, if_neg (fun z => h (of_decide_eq_true z))]
@[simp] theorem d_abs (i : Int) : dFn1 .abs (.int i) = some (.int (if i < 0 then -i else i)) := Eq.trans rfl rfl
@[simp] theorem d_min (i j : Int) : dFn2 .min2 (.int i) (.int j) = some (.int (if j < i then j else i)) := Eq.trans rfl rfl
@[simp] theorem d_max (i j : Int) : dFn2 .max2 (.int i) (.int j) = some (.int (if j > i then j else i)) := Eq.trans rfl rfl
@[simp] theorem d_ix1 (xs : List D) (i : Int) : dIdx (.lst xs) (.int i) = (ixOf xs.length i).bind fun j => xs[j]? := Eq.trans rfl rfl
@[simp] theorem d_ix2 (xs : List D) (i : Int) : dIdx (.tup xs) (.int i) = (ixOf xs.length i).bind fun j => xs[j]? := Eq.trans rfl rfl
@[simp] theorem d_cut1 (xs : List D) (l u : Option Int) : dCut (.lst xs) l u = some (.lst (cutL xs l u)) := Eq.trans rfl rfl
@[simp] theorem d_cut2 (xs : List D) (l u : Option Int) : dCut (.tup xs) l u = some (.tup (cutL xs l u)) := Eq.trans rfl rfl
@[simp] theorem d_app (ys : List D) (d : D) : dFm .append ys [d] = if ys.length < LIM then some (.non, ys ++ [d]) else none := Eq.trans rfl rfl
@[simp] theorem d_ins (ys : List D) (d : D) (i : Int) : dFm .insert ys [.int i, d] = if i = 0 ∧ ys.length < LIM then some (.non, d :: ys) else none := Eq.trans rfl rfl
@[simp] theorem d_pop0 (ys : List D) : dFm .pop0 ys [] = match ys[ys.length - 1]? with
    | some y => some (y, ys.dropLast)
    | none => none := Eq.trans rfl rfl
@[simp] theorem d_popAt (ys : List D) (i : Int) : dFm .popAt ys [.int i] = if okR i then match ixOf ys.length i with
      | some j => match ys[j]? with
        | some y => some (y, ys.eraseIdx j)
        | none => none
      | none => none
    else none := Eq.trans rfl rfl
@[simp] theorem d_isib (b : Bool) : dIsi .bool (.bl b) = some true := Eq.trans rfl rfl
theorem ix_at {n j : Nat} {i : Int} (h : i = (j : Int)) (hj : j < n) : ixOf n i = some j := by
  unfold ixOf
  rw [if_pos (by omega), if_pos (by omega)]
  simp [h]
theorem okR_small {i : Int} (h0 : -1000000 ≤ i) (h1 : i ≤ 1000000) : okR i = true := by
  exact near_of (by omega) (by omega)
theorem log2_small {i : Int} (h : i.natAbs < 2 ^ 100) : i.natAbs.log2 < 1920 := by
  rcases Nat.eq_zero_or_pos i.natAbs with e | e
  · rw [e]; decide
  · exact Nat.lt_of_lt_of_le ((Nat.log2_lt (by omega)).mpr h) (by decide)
theorem strOk_of {i : Int} (h : i.natAbs < 2 ^ 100) : strOk i = true := decide_eq_true (log2_small h)
theorem cut_upto {α : Type} (xs : List α) {i : Int} {j : Nat} (h : i = (j : Int)) : cutL xs none (some i) = xs.take j := by
  subst h
  unfold cutL cutIx
  simp only [List.drop_zero, Nat.sub_zero]
  rw [if_neg (by omega)]
  simp only [Int.toNat_natCast]
  rcases Nat.le_total j xs.length with h | h
  · rw [Nat.min_eq_left h]
  · rw [Nat.min_eq_right h, List.take_of_length_le (Nat.le_refl _), List.take_of_length_le h]
theorem cut_from {α : Type} (xs : List α) {i : Int} {j : Nat} (h : i = (j : Int)) : cutL xs (some i) none = xs.drop j := by
  subst h
  unfold cutL cutIx
  simp only
  rw [if_neg (by omega)]
  simp only [Int.toNat_natCast]
  rcases Nat.le_total j xs.length with h | h
  · rw [Nat.min_eq_left h, List.take_of_length_le (by simp)]
  · rw [Nat.min_eq_right h, List.drop_of_length_le h, List.drop_of_length_le (Nat.le_refl _)]
    simp
/-! ### equality of lists -/
mutual
/-- plain data -/
def D.fit0 : D → Bool
  | .lst xs | .tup xs => D.fit0s xs
  | .dct _ | .obj _ => false
  | _ => true
def D.fit0s : List D → Bool
  | [] => true
  | x :: r => D.fit0 x && D.fit0s r
end

theorem fitNs_of {n : Nat} : ∀ {ds : List D}, (∀ d ∈ ds, D.fitN n d = true) → D.fitNs n ds = true
  | [], _ => by simp [D.fitNs]
  | d :: ds, h => by
    simp only [D.fitNs, Bool.and_eq_true]
    exact ⟨h d List.mem_cons_self, fitNs_of fun e he => h e (List.mem_cons_of_mem _ he)⟩
mutual
theorem beq_refl : ∀ d : D, D.fit0 d = true → D.beq d d = true
  | .non, _ => rfl
  | .bl b, _ => by simp [D.beq]
  | .int i, _ => by simp [D.beq]
  | .str x, _ => by simp [D.beq]
  | .lst xs, h => by simp only [D.beq]; exact beqs_refl xs (by simpa [D.fit0] using h)
  | .tup xs, h => by simp only [D.beq]; exact beqs_refl xs (by simpa [D.fit0] using h)
  | .dct _, h => by simp [D.fit0] at h
  | .obj _, h => by simp [D.fit0] at h
theorem beqs_refl : ∀ ds : List D, D.fit0s ds = true → D.beqs ds ds = true
  | [], _ => rfl
  | d :: ds, h => by
    simp only [D.fit0s, Bool.and_eq_true] at h
    simp only [D.beqs, Bool.and_eq_true]
    exact ⟨beq_refl d h.1, beqs_refl ds h.2⟩
end
mutual
theorem fit0_of : ∀ (n : Nat) (d : D), D.fitN n d = true → D.fit0 d = true
  | _, .non, _ => rfl
  | _, .bl b, _ => rfl
  | _, .int i, _ => rfl
  | _, .str x, _ => rfl
  | n + 1, .lst xs, h => by simp only [D.fit0]; exact fit0s_of n xs (by simpa [D.fitN] using h)
  | n + 1, .tup xs, h => by simp only [D.fit0]; exact fit0s_of n xs (by simpa [D.fitN] using h)
  | 0, .lst xs, h => by simp [D.fitN] at h
  | 0, .tup xs, h => by simp [D.fitN] at h
  | n, .dct _, h => by cases n <;> simp [D.fitN] at h
  | n, .obj _, h => by cases n <;> simp [D.fitN] at h
theorem fit0s_of : ∀ (n : Nat) (ds : List D), D.fitNs n ds = true → D.fit0s ds = true
  | _, [], _ => rfl
  | n, d :: ds, h => by
    simp only [D.fitNs, Bool.and_eq_true] at h
    simp only [D.fit0s, Bool.and_eq_true]
    exact ⟨fit0_of n d h.1, fit0s_of n ds h.2⟩
end
theorem eq_self {d : D} (h : d.fit = true) : dEq d d = some true := by
  unfold dEq
  have h2 := beq_refl d (fit0_of 60 d h)
  rw [h2, h]
  cases d.flat <;> rfl
theorem run_step {FT : Nat → Option Fn} {prim : Nat → Option (List Cell → Sto → Option (D × Sto))} {k i : Nat} {fn : Fn} {cs : List Cell} {s : Sto} (hp : prim i = none) (hf : FT i = some fn) : PI.run FT prim (k + 1) i cs s = runFn fn (PI.run FT prim k) cs s := by
  unfold PI.run
  rw [hp]
  simp only [hf]
theorem run_prim {FT : Nat → Option Fn} {prim : Nat → Option (List Cell → Sto → Option (D × Sto))} {k i : Nat} {p : List Cell → Sto → Option (D × Sto)} {cs : List Cell} {s : Sto} (hp : prim i = some p) : PI.run FT prim (k + 1) i cs s = p cs s := by
  unfold PI.run
  rw [hp]
@[simp] theorem e_draw (dr : List Int → Int → Int → Int × List Int × Int) (n : Nat) (m : Int) (s : Sto) : pDraw dr [.val (.obj n), .val (.int m)] s = (if near 1073741824 m then match s[n]? with
    | some (.drw cells seed) => some (.int (dr cells seed m).1, s.set n (.drw (dr cells seed m).2.1 (dr cells seed m).2.2))
    | _ => none else none) := Eq.trans rfl rfl
@[simp] theorem lim0 : 0 ≤ LIM := by decide
@[simp] theorem lim1 : 1 ≤ LIM := by decide
@[simp] theorem lim2 : 2 ≤ LIM := by decide
@[simp] theorem lim3 : 3 ≤ LIM := by decide
@[simp] theorem lim4 : 4 ≤ LIM := by decide
@[simp] theorem lim5 : 5 ≤ LIM := by decide
@[simp] theorem lim6 : 6 ≤ LIM := by decide
@[simp] theorem lim7 : 7 ≤ LIM := by decide
@[simp] theorem lim8 : 8 ≤ LIM := by decide
@[simp] theorem lim9 : 9 ≤ LIM := by decide
@[simp] theorem lim10 : 10 ≤ LIM := by decide
@[simp] theorem lim11 : 11 ≤ LIM := by decide
@[simp] theorem lim12 : 12 ≤ LIM := by decide
@[simp] theorem lim13 : 13 ≤ LIM := by decide
@[simp] theorem lim14 : 14 ≤ LIM := by decide
@[simp] theorem lim15 : 15 ≤ LIM := by decide
@[simp] theorem lim16 : 16 ≤ LIM := by decide
mutual
theorem fitN_up : ∀ (n : Nat) (d : D), D.fitN n d = true → D.fitN (n + 1) d = true
  | _, .non, _ => rfl
  | _, .bl b, _ => rfl
  | _, .int i, _ => rfl
  | _, .str x, h => h
  | n + 1, .lst xs, h => by simp only [D.fitN]; exact fitNs_up n xs (by simpa [D.fitN] using h)
  | n + 1, .tup xs, h => by simp only [D.fitN]; exact fitNs_up n xs (by simpa [D.fitN] using h)
  | 0, .lst xs, h => by simp [D.fitN] at h
  | 0, .tup xs, h => by simp [D.fitN] at h
  | n, .dct _, h => by cases n <;> simp [D.fitN] at h
  | n, .obj _, h => by cases n <;> simp [D.fitN] at h
theorem fitNs_up : ∀ (n : Nat) (ds : List D), D.fitNs n ds = true → D.fitNs (n + 1) ds = true
  | _, [], _ => rfl
  | n, d :: ds, h => by
    simp only [D.fitNs, Bool.and_eq_true] at h ⊢
    exact ⟨fitN_up n d h.1, fitNs_up n ds h.2⟩
end
theorem fit_up {d : D} (h : D.fitN 59 d = true) : d.fit = true := fitN_up 59 d h
end PI
namespace Law
open PySem L2 PI
def top (i : Nat) : Stmt := PySem.Challenge.pw_hangbridge_k03_lanes_of_frames.main.body.getD i (.Pass ⟨0, 0, 0, 0⟩)
abbrev s_Lane___init__ : Stmt := inClass (top 2) 0
abbrev s_Lane_put : Stmt := inClass (top 2) 1
abbrev s_Lane_deliver : Stmt := inClass (top 2) 2
abbrev s_Lane_has : Stmt := inClass (top 2) 3
abbrev s_Lane_lose : Stmt := inClass (top 2) 4
abbrev s_Lane_double : Stmt := inClass (top 2) 5
abbrev s_Lane_hasten : Stmt := inClass (top 2) 6
abbrev s_Lane_clear : Stmt := inClass (top 2) 7
abbrev s__law_draw : Stmt := top 5
abbrev s__law_state : Stmt := top 4
abbrev s_law : Stmt := top 7
def mts : List (List (Str × Nat)) := [[("put", 1), ("deliver", 2), ("has", 3), ("lose", 4), ("double", 5), ("hasten", 6), ("clear", 7)]]
def flds : List (List Str) := [["frames"]]
def inis : List Nat := [0]
def tab : Tab where
  mt := fun c m => (mts.getD c []).lookup m
  ini := fun c => inis[c]?
  fl := fun c x => (flds.getD c []).contains x
def ros : List Bool := [false, false, false, false, false, false, false, false, false]
def ro (i : Nat) : Bool := ros.getD i false
theorem ro_of {m : Str} {rr : Bool} (h : (mts.all fun l => match l.lookup m with | some i => ro i == rr | none => true) = true) : ∀ c i, tab.mt c m = some i → ro i = rr := fun c i e => ro_all h c i e
@[simp] theorem ne_clear_frames : (("clear" : Str) == "frames") = false := by decide +kernel
@[simp] theorem nq_clear_frames : (("clear" : Str) = "frames") = False := eq_false (by decide +kernel)
@[simp] theorem ne_deliver_frames : (("deliver" : Str) == "frames") = false := by decide +kernel
@[simp] theorem nq_deliver_frames : (("deliver" : Str) = "frames") = False := eq_false (by decide +kernel)
@[simp] theorem ne_double_frames : (("double" : Str) == "frames") = false := by decide +kernel
@[simp] theorem nq_double_frames : (("double" : Str) = "frames") = False := eq_false (by decide +kernel)
@[simp] theorem ne_has_frames : (("has" : Str) == "frames") = false := by decide +kernel
@[simp] theorem nq_has_frames : (("has" : Str) = "frames") = False := eq_false (by decide +kernel)
@[simp] theorem ne_hasten_frames : (("hasten" : Str) == "frames") = false := by decide +kernel
@[simp] theorem nq_hasten_frames : (("hasten" : Str) = "frames") = False := eq_false (by decide +kernel)
@[simp] theorem ne_lose_frames : (("lose" : Str) == "frames") = false := by decide +kernel
@[simp] theorem nq_lose_frames : (("lose" : Str) = "frames") = False := eq_false (by decide +kernel)
@[simp] theorem ne_put_frames : (("put" : Str) == "frames") = false := by decide +kernel
@[simp] theorem nq_put_frames : (("put" : Str) = "frames") = False := eq_false (by decide +kernel)
@[simp] theorem fl_0_frames : tab.fl 0 "frames" = true := by decide +kernel
@[simp] theorem mt_0_put : tab.mt 0 "put" = some 1 := by decide +kernel
@[simp] theorem mt_0_deliver : tab.mt 0 "deliver" = some 2 := by decide +kernel
@[simp] theorem mt_0_has : tab.mt 0 "has" = some 3 := by decide +kernel
@[simp] theorem mt_0_lose : tab.mt 0 "lose" = some 4 := by decide +kernel
@[simp] theorem mt_0_double : tab.mt 0 "double" = some 5 := by decide +kernel
@[simp] theorem mt_0_hasten : tab.mt 0 "hasten" = some 6 := by decide +kernel
@[simp] theorem mt_0_clear : tab.mt 0 "clear" = some 7 := by decide +kernel
@[simp] theorem in_0 : tab.ini 0 = some 0 := by decide +kernel
def b_Lane___init__ (R : PI.Run) : Fs := (xSet tab.fl true (fVar 0) "frames" (fLst fNil))
def b_Lane_put (R : PI.Run) : Fs := (xIf (fCmp .lt (f1 (fldOf tab.fl "frames" (fVar 0) true) (dFn1 .len)) (fC (.int 32))) (xExpr (fFm tab.fl .append (fVar 0) "frames" (fCons (fVar 1) fNil))) xPas)
def b_Lane_deliver (R : PI.Run) : Fs := (xRet (fIf (fCmp .gt (f1 (fldOf tab.fl "frames" (fVar 0) true) (dFn1 .len)) (fC (.int 0))) (fFm tab.fl .popAt (fVar 0) "frames" (fCons (fC (.int 0)) fNil)) (fC .non)))
def b_Lane_has (R : PI.Run) : Fs := (xRet (fChain .le .lt (fC (.int 0)) (fVar 1) (f1 (fldOf tab.fl "frames" (fVar 0) true) (dFn1 .len))))
def b_Lane_lose (R : PI.Run) : Fs := (xSeq (xIf (fNot (fMeth tab R "has" (fVar 0) (aB 1 aNil))) (xRet (fC (.bl false))) xPas)
  (xSeq (xExpr (fFm tab.fl .popAt (fVar 0) "frames" (fCons (fVar 1) fNil)))
  (xRet (fC (.bl true)))))
def b_Lane_double (R : PI.Run) : Fs := (xSeq (xIf (fNot (fMeth tab R "has" (fVar 0) (aB 1 aNil))) (xRet (fC (.bl false))) xPas)
  (xSeq (xExpr (fMeth tab R "put" (fVar 0) (aV (f2 (fldOf tab.fl "frames" (fVar 0) true) (fVar 1) dIdx) aNil)))
  (xRet (fC (.bl true)))))
def b_Lane_hasten (R : PI.Run) : Fs := (xSeq (xIf (fNot (fMeth tab R "has" (fVar 0) (aB 1 aNil))) (xRet (fC (.bl false))) xPas)
  (xSeq (xExpr (fFm tab.fl .insert (fVar 0) "frames" (fCons (fC (.int 0)) (fCons (fFm tab.fl .popAt (fVar 0) "frames" (fCons (fVar 1) fNil)) fNil))))
  (xRet (fC (.bl true)))))
def b_Lane_clear (R : PI.Run) : Fs := (xSet tab.fl true (fVar 0) "frames" (fLst fNil))
def l_law_1 (R : PI.Run) : Fs := (xSeq (xAsg (.n 6) (fCall R 8 (aB 1 (aV (fC (.int 10)) aNil))))
  (xSeq (xAsg (.n 7) (fCall R 8 (aB 1 (aV (fBin .add (f1 (fVar 3) (dFn1 .len)) (fC (.int 2))) aNil))))
  (xSeq (xIf (fCmp .lt (fVar 6) (fC (.int 5))) (xSeq (xExpr (fMeth tab R "put" (fVar 2) (aV (fBin .add (fC (.str "f")) (f1 (fVar 5) (dFn1 .str))) aNil)))
  (xAsg (.n 3) (fCut (fBin .add (fVar 3) (fLst (fCons (fBin .add (fC (.str "f")) (f1 (fVar 5) (dFn1 .str))) fNil))) oNil (fPart (fC (.int 32)))))) (xIf (fCmp .eq (fVar 6) (fC (.int 5))) (xSeq (xAsg (.n 8) (fIf (fCmp .gt (f1 (fVar 3) (dFn1 .len)) (fC (.int 0))) (f2 (fVar 3) (fC (.int 0)) dIdx) (fC .non)))
  (xSeq (xIf (fCmp .ne (fMeth tab R "deliver" (fVar 2) aNil) (fVar 8)) (xRet (fC (.bl false))) xPas)
  (xAsg (.n 3) (fCut (fVar 3) (fPart (fC (.int 1))) oNil)))) (xIf (fCmp .eq (fVar 6) (fC (.int 9))) (xIf (fCmp .eq (fCall R 8 (aB 1 (aV (fC (.int 6)) aNil))) (fC (.int 0))) (xSeq (xExpr (fMeth tab R "clear" (fVar 2) aNil))
  (xAsg (.n 3) (fLst fNil))) xPas) (xSeq (xAsg (.n 9) (fCmp .lt (fVar 7) (f1 (fVar 3) (dFn1 .len))))
  (xSeq (xAsg (.n 10) (fIf (fCmp .eq (fVar 6) (fC (.int 6))) (fMeth tab R "lose" (fVar 2) (aB 7 aNil)) (fIf (fCmp .eq (fVar 6) (fC (.int 7))) (fMeth tab R "double" (fVar 2) (aB 7 aNil)) (fMeth tab R "hasten" (fVar 2) (aB 7 aNil)))))
  (xSeq (xIf (fOr (fNot (f1 (fVar 10) fun d => (dIsi .bool d).map .bl)) (fCmp .ne (fVar 10) (fVar 9))) (xRet (fC (.bl false))) xPas)
  (xIf (fVar 9) (xAsg (.n 3) (f2 (fLst (fCons (fBin .add (fCut (fVar 3) oNil (fPart (fVar 7))) (fCut (fVar 3) (fPart (fBin .add (fVar 7) (fC (.int 1)))) oNil)) (fCons (fCut (fBin .add (fVar 3) (fLst (fCons (f2 (fVar 3) (fVar 7) dIdx) fNil))) oNil (fPart (fC (.int 32)))) (fCons (fBin .add (fBin .add (fLst (fCons (f2 (fVar 3) (fVar 7) dIdx) fNil)) (fCut (fVar 3) oNil (fPart (fVar 7)))) (fCut (fVar 3) (fPart (fBin .add (fVar 7) (fC (.int 1)))) oNil)) fNil)))) (fBin .sub (fVar 6) (fC (.int 6))) dIdx)) xPas)))))))
  (xIf (fCmp .ne (fldOf tab.fl "frames" (fVar 2) true) (fVar 3)) (xRet (fC (.bl false))) xPas))))
def b_law (R : PI.Run) : Fs := (xSeq (xAsg (.n 2) (fMk tab R 0 aNil))
  (xSeq (xAsg (.n 3) (fLst fNil))
  (xSeq (xAsg (.n 4) (fCall R 8 (aB 1 (aV (fC (.int 61)) aNil))))
  (xSeq (xFor (.n 5) (iRng1 (fVar 4)) (l_law_1 R))
  (xRet (fC (.bl true)))))))
def FT : Nat → Option Fn
  | 0 => some ⟨1, 1, false, b_Lane___init__⟩
  | 1 => some ⟨2, 2, false, b_Lane_put⟩
  | 2 => some ⟨1, 1, false, b_Lane_deliver⟩
  | 3 => some ⟨2, 2, false, b_Lane_has⟩
  | 4 => some ⟨2, 2, false, b_Lane_lose⟩
  | 5 => some ⟨2, 2, false, b_Lane_double⟩
  | 6 => some ⟨2, 2, false, b_Lane_hasten⟩
  | 7 => some ⟨1, 1, false, b_Lane_clear⟩
  | _ => none
def prim : Nat → Option (List Cell → Sto → Option (D × Sto))
  | 8 => some (pDraw drawA)
  | _ => none
abbrev rn (k : Nat) : PI.Run := run FT prim k
theorem rn_step {k i : Nat} {fn : Fn} {cs : List Cell} {s : Sto} (hp : prim i = none) (hf : FT i = some fn) : rn (k + 1) i cs s = runFn fn (rn k) cs s := PI.run_step hp hf
theorem rn_prim {k i : Nat} {p : List Cell → Sto → Option (D × Sto)} {cs : List Cell} {s : Sto} (hp : prim i = some p) : rn (k + 1) i cs s = p cs s := PI.run_prim hp
def cl (C_Lane : Addr) : Nat → Option Addr
  | 0 => some C_Lane
  | _ => none
structure Txt (K : PySem.W.Frag) (mg : Str → Option Value) (C_Lane f_Lane___init__ f_Lane_put f_Lane_deliver f_Lane_has f_Lane_lose f_Lane_double f_Lane_hasten f_Lane_clear f__law_draw f__law_state : Addr) : Prop where
  n_abs : mg "abs" = none
  n_bool : mg "bool" = none
  n_int : mg "int" = none
  n_isinstance : mg "isinstance" = none
  n_len : mg "len" = none
  n_range : mg "range" = none
  n_str : mg "str" = none
  m_MOST_FRAMES : ∃ t, mg "MOST_FRAMES" = some (.int 32 t)
  c_Lane : Cls K C_Lane
  m_Lane : mg "Lane" = some (.ref C_Lane)
  a_Lane_frames : NoAttr K C_Lane "frames"
  i_Lane : Mk K C_Lane f_Lane___init__
  h_Lane_put : Meth K C_Lane "put" f_Lane_put
  h_Lane_deliver : Meth K C_Lane "deliver" f_Lane_deliver
  h_Lane_has : Meth K C_Lane "has" f_Lane_has
  h_Lane_lose : Meth K C_Lane "lose" f_Lane_lose
  h_Lane_double : Meth K C_Lane "double" f_Lane_double
  h_Lane_hasten : Meth K C_Lane "hasten" f_Lane_hasten
  h_Lane_clear : Meth K C_Lane "clear" f_Lane_clear
  k_Lane___init__ : PySem.W.keepIn K (.ref f_Lane___init__) = true
  e_Lane___init__ : ∃ fd, Fun K "__init__" "Lane.__init__" s_Lane___init__ f_Lane___init__ fd ∧ Binds K fd ["self"] []
  k_Lane_put : PySem.W.keepIn K (.ref f_Lane_put) = true
  e_Lane_put : ∃ fd, Fun K "put" "Lane.put" s_Lane_put f_Lane_put fd ∧ Binds K fd ["self", "text"] []
  k_Lane_deliver : PySem.W.keepIn K (.ref f_Lane_deliver) = true
  e_Lane_deliver : ∃ fd, Fun K "deliver" "Lane.deliver" s_Lane_deliver f_Lane_deliver fd ∧ Binds K fd ["self"] []
  k_Lane_has : PySem.W.keepIn K (.ref f_Lane_has) = true
  e_Lane_has : ∃ fd, Fun K "has" "Lane.has" s_Lane_has f_Lane_has fd ∧ Binds K fd ["self", "at"] []
  k_Lane_lose : PySem.W.keepIn K (.ref f_Lane_lose) = true
  e_Lane_lose : ∃ fd, Fun K "lose" "Lane.lose" s_Lane_lose f_Lane_lose fd ∧ Binds K fd ["self", "at"] []
  k_Lane_double : PySem.W.keepIn K (.ref f_Lane_double) = true
  e_Lane_double : ∃ fd, Fun K "double" "Lane.double" s_Lane_double f_Lane_double fd ∧ Binds K fd ["self", "at"] []
  k_Lane_hasten : PySem.W.keepIn K (.ref f_Lane_hasten) = true
  e_Lane_hasten : ∃ fd, Fun K "hasten" "Lane.hasten" s_Lane_hasten f_Lane_hasten fd ∧ Binds K fd ["self", "at"] []
  k_Lane_clear : PySem.W.keepIn K (.ref f_Lane_clear) = true
  e_Lane_clear : ∃ fd, Fun K "clear" "Lane.clear" s_Lane_clear f_Lane_clear fd ∧ Binds K fd ["self"] []
  m__law_draw : mg "_law_draw" = some (.ref f__law_draw)
  k__law_draw : PySem.W.keepIn K (.ref f__law_draw) = true
  e__law_draw : ∃ fd, Fun K "_law_draw" "_law_draw" s__law_draw f__law_draw fd ∧ Binds K fd ["_law_state_here", "_law_many"] []
  m__law_state : mg "_law_state" = some (.ref f__law_state)
  k__law_state : PySem.W.keepIn K (.ref f__law_state) = true
  e__law_state : ∃ fd, Fun K "_law_state" "_law_state" s__law_state f__law_state fd ∧ Binds K fd ["_law_script"] []
section
variable {P : Program} {w : World} {K : PySem.W.Frag} {mg : Str → Option Value} {base : Heap} {C_Lane f_Lane___init__ f_Lane_put f_Lane_deliver f_Lane_has f_Lane_lose f_Lane_double f_Lane_hasten f_Lane_clear f__law_draw f__law_state : Addr}
theorem CH (T : Txt K mg C_Lane f_Lane___init__ f_Lane_put f_Lane_deliver f_Lane_has f_Lane_lose f_Lane_double f_Lane_hasten f_Lane_clear f__law_draw f__law_state) : ClsH K (cl C_Lane) tab.fl := by
  refine ⟨fun c C h => ?_, fun c C x h hx => ?_⟩
  · match c, h with
    | 0, h => cases h; exact T.c_Lane
    | _ + 1, h => cases h
  · match c, h, hx with
    | 0, h, hx =>
      cases h
      have hx : x ∈ (["frames"] : List Str) := by simpa [tab, flds] using hx
      simp only [List.mem_cons, List.not_mem_nil, or_false] at hx
      subst hx; exact T.a_Lane_frames
    | _ + 1, h, hx => cases h
structure AllF (P : Program) (w : World) (K : PySem.W.Frag) (mg : Str → Option Value) (base : Heap) (C_Lane f_Lane___init__ f_Lane_put f_Lane_deliver f_Lane_has f_Lane_lose f_Lane_double f_Lane_hasten f_Lane_clear f__law_draw f__law_state : Addr) (k : Nat) : Prop where
  h_Lane___init__ : FnH0 P w K mg base (cl C_Lane) (rn k) 0 false (2 * k) f_Lane___init__
  h_Lane_put : FnH0 P w K mg base (cl C_Lane) (rn k) 1 false (2 * k) f_Lane_put
  h_Lane_deliver : FnH0 P w K mg base (cl C_Lane) (rn k) 2 false (2 * k) f_Lane_deliver
  h_Lane_has : FnH0 P w K mg base (cl C_Lane) (rn k) 3 false (2 * k) f_Lane_has
  h_Lane_lose : FnH0 P w K mg base (cl C_Lane) (rn k) 4 false (2 * k) f_Lane_lose
  h_Lane_double : FnH0 P w K mg base (cl C_Lane) (rn k) 5 false (2 * k) f_Lane_double
  h_Lane_hasten : FnH0 P w K mg base (cl C_Lane) (rn k) 6 false (2 * k) f_Lane_hasten
  h_Lane_clear : FnH0 P w K mg base (cl C_Lane) (rn k) 7 false (2 * k) f_Lane_clear
  h__law_draw : FnH0 P w K mg base (cl C_Lane) (rn k) 8 false (2 * k) f__law_draw
theorem AllF.mk_Lane {k : Nat} (A : AllF P w K mg base C_Lane f_Lane___init__ f_Lane_put f_Lane_deliver f_Lane_has f_Lane_lose f_Lane_double f_Lane_hasten f_Lane_clear f__law_draw f__law_state k) (T : Txt K mg C_Lane f_Lane___init__ f_Lane_put f_Lane_deliver f_Lane_has f_Lane_lose f_Lane_double f_Lane_hasten f_Lane_clear f__law_draw f__law_state) : MkH0 P w K mg base (cl C_Lane) tab (rn k) (2 * k) 0 C_Lane := ⟨_, _, rfl, rfl, T.i_Lane, A.h_Lane___init__⟩
theorem AllF.mth {k : Nat} (A : AllF P w K mg base C_Lane f_Lane___init__ f_Lane_put f_Lane_deliver f_Lane_has f_Lane_lose f_Lane_double f_Lane_hasten f_Lane_clear f__law_draw f__law_state k) (T : Txt K mg C_Lane f_Lane___init__ f_Lane_put f_Lane_deliver f_Lane_has f_Lane_lose f_Lane_double f_Lane_hasten f_Lane_clear f__law_draw f__law_state) : MthH0 P w K mg base (cl C_Lane) tab (rn k) ro (2 * k) := by
  refine ⟨fun c m i h => ?_⟩
  have h : (mts.getD c []).lookup m = some i := h
  match c, h with
  | 0, h =>
    have h := PI.look_mem (l := [(("put" : Str), 1), (("deliver" : Str), 2), (("has" : Str), 3), (("lose" : Str), 4), (("double" : Str), 5), (("hasten" : Str), 6), (("clear" : Str), 7)]) h
    simp only [List.mem_cons, List.not_mem_nil, or_false, Prod.mk.injEq] at h
    rcases h with ⟨rfl, rfl⟩ | ⟨rfl, rfl⟩ | ⟨rfl, rfl⟩ | ⟨rfl, rfl⟩ | ⟨rfl, rfl⟩ | ⟨rfl, rfl⟩ | ⟨rfl, rfl⟩
    · exact ⟨_, _, rfl, T.c_Lane, T.h_Lane_put, A.h_Lane_put⟩
    · exact ⟨_, _, rfl, T.c_Lane, T.h_Lane_deliver, A.h_Lane_deliver⟩
    · exact ⟨_, _, rfl, T.c_Lane, T.h_Lane_has, A.h_Lane_has⟩
    · exact ⟨_, _, rfl, T.c_Lane, T.h_Lane_lose, A.h_Lane_lose⟩
    · exact ⟨_, _, rfl, T.c_Lane, T.h_Lane_double, A.h_Lane_double⟩
    · exact ⟨_, _, rfl, T.c_Lane, T.h_Lane_hasten, A.h_Lane_hasten⟩
    · exact ⟨_, _, rfl, T.c_Lane, T.h_Lane_clear, A.h_Lane_clear⟩
  | _ + 1, h => cases h
theorem sc_Lane___init__ : FnScope ["self"] ["self"] (defScope s_Lane___init__) := ⟨rfl, rfl, rfl, by decide +kernel, rfl, by decide +kernel, by decide +kernel⟩
theorem sc_Lane_put : FnScope ["self", "text"] ["self", "text"] (defScope s_Lane_put) := ⟨rfl, rfl, rfl, by decide +kernel, rfl, by decide +kernel, by decide +kernel⟩
theorem sc_Lane_deliver : FnScope ["self"] ["self"] (defScope s_Lane_deliver) := ⟨rfl, rfl, rfl, by decide +kernel, rfl, by decide +kernel, by decide +kernel⟩
theorem sc_Lane_has : FnScope ["self", "at"] ["self", "at"] (defScope s_Lane_has) := ⟨rfl, rfl, rfl, by decide +kernel, rfl, by decide +kernel, by decide +kernel⟩
theorem sc_Lane_lose : FnScope ["self", "at"] ["self", "at"] (defScope s_Lane_lose) := ⟨rfl, rfl, rfl, by decide +kernel, rfl, by decide +kernel, by decide +kernel⟩
theorem sc_Lane_double : FnScope ["self", "at"] ["self", "at"] (defScope s_Lane_double) := ⟨rfl, rfl, rfl, by decide +kernel, rfl, by decide +kernel, by decide +kernel⟩
theorem sc_Lane_hasten : FnScope ["self", "at"] ["self", "at"] (defScope s_Lane_hasten) := ⟨rfl, rfl, rfl, by decide +kernel, rfl, by decide +kernel, by decide +kernel⟩
theorem sc_Lane_clear : FnScope ["self"] ["self"] (defScope s_Lane_clear) := ⟨rfl, rfl, rfl, by decide +kernel, rfl, by decide +kernel, by decide +kernel⟩
theorem sc__law_draw : FnScope ["_law_state_here", "_law_many", "_law_cells", "_law_value", "_law_mixed"] ["_law_state_here", "_law_many"] (defScope s__law_draw) := ⟨rfl, rfl, rfl, by decide +kernel, rfl, by decide +kernel, by decide +kernel⟩
theorem sc__law_state : FnScope ["_law_script", "_law_seed", "_law_cell"] ["_law_script"] (defScope s__law_state) := ⟨rfl, rfl, rfl, by decide +kernel, rfl, by decide +kernel, by decide +kernel⟩
theorem sc_law : FnScope ["_law_script", "_law_state_here", "_law_lane", "_law_due", "_law_many", "_law_k", "_law_kind", "_law_at", "_law_first", "_law_there", "_law_told"] ["_law_script"] (defScope s_law) := ⟨rfl, rfl, rfl, by decide +kernel, rfl, by decide +kernel, by decide +kernel⟩
set_option maxHeartbeats 8000000 in
theorem ok_Lane___init__ {k : Nat} (A : AllF P w K mg base C_Lane f_Lane___init__ f_Lane_put f_Lane_deliver f_Lane_has f_Lane_lose f_Lane_double f_Lane_hasten f_Lane_clear f__law_draw f__law_state k) (T : Txt K mg C_Lane f_Lane___init__ f_Lane_put f_Lane_deliver f_Lane_has f_Lane_lose f_Lane_double f_Lane_hasten f_Lane_clear f__law_draw f__law_state) : FnH0 P w K mg base (cl C_Lane) (rn (k + 1)) 0 false (2 * (k + 1)) f_Lane___init__ := by
  obtain ⟨fd, F, hb⟩ := T.e_Lane___init__
  have nd := sc_Lane___init__.nd
  refine fn_h (k := 2 * k + 1) (R := rn k) (fn := ⟨1, 1, false, b_Lane___init__⟩) F sc_Lane___init__ hb rfl rfl (fun _ _ => rfl) (fun cdv A0 outer s H E hr => ?_)
  have hr0 := hr.mono (Nat.le_succ (2 * k))
  have hu := hu65 hr
  exact (ss_one (vs_fown (CH T) (L2.pv 0) (pv_lst pa_nilv) rfl))
set_option maxHeartbeats 8000000 in
theorem ok_Lane_put {k : Nat} (A : AllF P w K mg base C_Lane f_Lane___init__ f_Lane_put f_Lane_deliver f_Lane_has f_Lane_lose f_Lane_double f_Lane_hasten f_Lane_clear f__law_draw f__law_state k) (T : Txt K mg C_Lane f_Lane___init__ f_Lane_put f_Lane_deliver f_Lane_has f_Lane_lose f_Lane_double f_Lane_hasten f_Lane_clear f__law_draw f__law_state) : FnH0 P w K mg base (cl C_Lane) (rn (k + 1)) 1 false (2 * (k + 1)) f_Lane_put := by
  obtain ⟨fd, F, hb⟩ := T.e_Lane_put
  have nd := sc_Lane_put.nd
  refine fn_h (k := 2 * k + 1) (R := rn k) (fn := ⟨2, 2, false, b_Lane_put⟩) F sc_Lane_put hb rfl rfl (fun _ _ => rfl) (fun cdv A0 outer s H E hr => ?_)
  have hr0 := hr.mono (Nat.le_succ (2 * k))
  have hu := hu65 hr
  obtain ⟨t_MOST_FRAMES, m_MOST_FRAMES⟩ := T.m_MOST_FRAMES
  exact (ss_one (vs_if (t_cmp (k_lt hu) (two_tp (pv_ts (pv_s (v_len rfl T.n_len rfl (pv_bfld (CH T) (pv_p st_var (pp_var (L2.pv 0))) rfl)))) (pp_gint rfl m_MOST_FRAMES rfl) st_c) (nomark _)) (ss_one (vs_expr (pv_k (pk_fm (CH T) (pp_var (L2.pv 0)) st_var rfl (fk_append (pak_cons (pk_p st_var (pp_var (L2.pv 1))) pak_nil rfl) rfl rfl rfl))) rfl)) ss_nil))
set_option maxHeartbeats 8000000 in
theorem ok_Lane_deliver {k : Nat} (A : AllF P w K mg base C_Lane f_Lane___init__ f_Lane_put f_Lane_deliver f_Lane_has f_Lane_lose f_Lane_double f_Lane_hasten f_Lane_clear f__law_draw f__law_state k) (T : Txt K mg C_Lane f_Lane___init__ f_Lane_put f_Lane_deliver f_Lane_has f_Lane_lose f_Lane_double f_Lane_hasten f_Lane_clear f__law_draw f__law_state) : FnH0 P w K mg base (cl C_Lane) (rn (k + 1)) 2 false (2 * (k + 1)) f_Lane_deliver := by
  obtain ⟨fd, F, hb⟩ := T.e_Lane_deliver
  have nd := sc_Lane_deliver.nd
  refine fn_h (k := 2 * k + 1) (R := rn k) (fn := ⟨1, 1, false, b_Lane_deliver⟩) F sc_Lane_deliver hb rfl rfl (fun _ _ => rfl) (fun cdv A0 outer s H E hr => ?_)
  have hr0 := hr.mono (Nat.le_succ (2 * k))
  have hu := hu65 hr
  exact (ss_one (vs_ret (pv_if (t_cmp k_gt (two_tp (pv_ts (pv_s (v_len rfl T.n_len rfl (pv_bfld (CH T) (pv_p st_var (pp_var (L2.pv 0))) rfl)))) pp_int st_c) (nomark _)) (pv_k (pk_fm (CH T) (pp_var (L2.pv 0)) st_var rfl (fk_popAt (pak_cons (pk_p st_c pp_int) pak_nil rfl) rfl rfl rfl))) (pv_p st_c pp_non))))
set_option maxHeartbeats 8000000 in
theorem ok_Lane_has {k : Nat} (A : AllF P w K mg base C_Lane f_Lane___init__ f_Lane_put f_Lane_deliver f_Lane_has f_Lane_lose f_Lane_double f_Lane_hasten f_Lane_clear f__law_draw f__law_state k) (T : Txt K mg C_Lane f_Lane___init__ f_Lane_put f_Lane_deliver f_Lane_has f_Lane_lose f_Lane_double f_Lane_hasten f_Lane_clear f__law_draw f__law_state) : FnH0 P w K mg base (cl C_Lane) (rn (k + 1)) 3 false (2 * (k + 1)) f_Lane_has := by
  obtain ⟨fd, F, hb⟩ := T.e_Lane_has
  have nd := sc_Lane_has.nd
  refine fn_h (k := 2 * k + 1) (R := rn k) (fn := ⟨2, 2, false, b_Lane_has⟩) F sc_Lane_has hb rfl rfl (fun _ _ => rfl) (fun cdv A0 outer s H E hr => ?_)
  have hr0 := hr.mono (Nat.le_succ (2 * k))
  have hu := hu65 hr
  exact (ss_one (vs_ret (pv_s (v_chn k_le (k_lt hu) (pv_bs (pv_p st_c pp_int)) (pv_bs (pv_p st_var (pp_var (L2.pv 1)))) (pv_ts (pv_s (v_len rfl T.n_len rfl (pv_bfld (CH T) (pv_p st_var (pp_var (L2.pv 0))) rfl)))) (by with_unfolding_all rfl)))))
set_option maxHeartbeats 8000000 in
theorem ok_Lane_lose {k : Nat} (A : AllF P w K mg base C_Lane f_Lane___init__ f_Lane_put f_Lane_deliver f_Lane_has f_Lane_lose f_Lane_double f_Lane_hasten f_Lane_clear f__law_draw f__law_state k) (T : Txt K mg C_Lane f_Lane___init__ f_Lane_put f_Lane_deliver f_Lane_has f_Lane_lose f_Lane_double f_Lane_hasten f_Lane_clear f__law_draw f__law_state) : FnH0 P w K mg base (cl C_Lane) (rn (k + 1)) 4 false (2 * (k + 1)) f_Lane_lose := by
  obtain ⟨fd, F, hb⟩ := T.e_Lane_lose
  have nd := sc_Lane_lose.nd
  refine fn_h (k := 2 * k + 1) (R := rn k) (fn := ⟨2, 2, false, b_Lane_lose⟩) F sc_Lane_lose hb rfl rfl (fun _ _ => rfl) (fun cdv A0 outer s H E hr => ?_)
  have hr0 := hr.mono (Nat.le_succ (2 * k))
  have hu := hu65 hr
  exact (ss_cons (vs_if (pt_notv (pt_of (pv_meth (rr := false) (A.mth T) hr0 (pv_p st_var (pp_var (L2.pv 0))) (pc_b (L2.pv 1) pc_nil (star_cons rfl)) (fun h => by cases h) (ro_of (by decide +kernel)) rfl rfl (by decide) rfl) (fun _ => rfl))) (ss_one (vs_ret (pv_p st_c pp_bl))) ss_nil)
    (ss_cons (vs_expr (pv_k (pk_fm (CH T) (pp_var (L2.pv 0)) st_var rfl (fk_popAt (pak_cons (pk_p st_var (pp_var (L2.pv 1))) pak_nil rfl) rfl rfl rfl))) rfl)
    (ss_one (vs_ret (pv_p st_c pp_bl)))))
set_option maxHeartbeats 8000000 in
theorem ok_Lane_double {k : Nat} (A : AllF P w K mg base C_Lane f_Lane___init__ f_Lane_put f_Lane_deliver f_Lane_has f_Lane_lose f_Lane_double f_Lane_hasten f_Lane_clear f__law_draw f__law_state k) (T : Txt K mg C_Lane f_Lane___init__ f_Lane_put f_Lane_deliver f_Lane_has f_Lane_lose f_Lane_double f_Lane_hasten f_Lane_clear f__law_draw f__law_state) : FnH0 P w K mg base (cl C_Lane) (rn (k + 1)) 5 false (2 * (k + 1)) f_Lane_double := by
  obtain ⟨fd, F, hb⟩ := T.e_Lane_double
  have nd := sc_Lane_double.nd
  refine fn_h (k := 2 * k + 1) (R := rn k) (fn := ⟨2, 2, false, b_Lane_double⟩) F sc_Lane_double hb rfl rfl (fun _ _ => rfl) (fun cdv A0 outer s H E hr => ?_)
  have hr0 := hr.mono (Nat.le_succ (2 * k))
  have hu := hu65 hr
  exact (ss_cons (vs_if (pt_notv (pt_of (pv_meth (rr := false) (A.mth T) hr0 (pv_p st_var (pp_var (L2.pv 0))) (pc_b (L2.pv 1) pc_nil (star_cons rfl)) (fun h => by cases h) (ro_of (by decide +kernel)) rfl rfl (by decide) rfl) (fun _ => rfl))) (ss_one (vs_ret (pv_p st_c pp_bl))) ss_nil)
    (ss_cons (vs_expr (pv_meth (rr := false) (A.mth T) hr0 (pv_p st_var (pp_var (L2.pv 0))) (pc_v (v_idx (fun _ _ => rfl) (two_tp (pv_bfld (CH T) (pv_p st_var (pp_var (L2.pv 0))) rfl) (pp_var (L2.pv 1)) st_var)) pc_nil (star_cons rfl)) (fun h => by cases h) (ro_of (by decide +kernel)) rfl rfl (by decide) rfl) rfl)
    (ss_one (vs_ret (pv_p st_c pp_bl)))))
set_option maxHeartbeats 8000000 in
theorem ok_Lane_hasten {k : Nat} (A : AllF P w K mg base C_Lane f_Lane___init__ f_Lane_put f_Lane_deliver f_Lane_has f_Lane_lose f_Lane_double f_Lane_hasten f_Lane_clear f__law_draw f__law_state k) (T : Txt K mg C_Lane f_Lane___init__ f_Lane_put f_Lane_deliver f_Lane_has f_Lane_lose f_Lane_double f_Lane_hasten f_Lane_clear f__law_draw f__law_state) : FnH0 P w K mg base (cl C_Lane) (rn (k + 1)) 6 false (2 * (k + 1)) f_Lane_hasten := by
  obtain ⟨fd, F, hb⟩ := T.e_Lane_hasten
  have nd := sc_Lane_hasten.nd
  refine fn_h (k := 2 * k + 1) (R := rn k) (fn := ⟨2, 2, false, b_Lane_hasten⟩) F sc_Lane_hasten hb rfl rfl (fun _ _ => rfl) (fun cdv A0 outer s H E hr => ?_)
  have hr0 := hr.mono (Nat.le_succ (2 * k))
  have hu := hu65 hr
  exact (ss_cons (vs_if (pt_notv (pt_of (pv_meth (rr := false) (A.mth T) hr0 (pv_p st_var (pp_var (L2.pv 0))) (pc_b (L2.pv 1) pc_nil (star_cons rfl)) (fun h => by cases h) (ro_of (by decide +kernel)) rfl rfl (by decide) rfl) (fun _ => rfl))) (ss_one (vs_ret (pv_p st_c pp_bl))) ss_nil)
    (ss_cons (vs_expr (pv_k (pk_fm (CH T) (pp_var (L2.pv 0)) st_var rfl (fk_insert (pak_cons (pk_p st_c pp_int) (pak_cons (pk_fm (CH T) (pp_var (L2.pv 0)) st_var rfl (fk_popAt (pak_cons (pk_p st_var (pp_var (L2.pv 1))) pak_nil rfl) rfl rfl rfl)) pak_nil rfl) rfl) rfl rfl rfl rfl))) rfl)
    (ss_one (vs_ret (pv_p st_c pp_bl)))))
set_option maxHeartbeats 8000000 in
theorem ok_Lane_clear {k : Nat} (A : AllF P w K mg base C_Lane f_Lane___init__ f_Lane_put f_Lane_deliver f_Lane_has f_Lane_lose f_Lane_double f_Lane_hasten f_Lane_clear f__law_draw f__law_state k) (T : Txt K mg C_Lane f_Lane___init__ f_Lane_put f_Lane_deliver f_Lane_has f_Lane_lose f_Lane_double f_Lane_hasten f_Lane_clear f__law_draw f__law_state) : FnH0 P w K mg base (cl C_Lane) (rn (k + 1)) 7 false (2 * (k + 1)) f_Lane_clear := by
  obtain ⟨fd, F, hb⟩ := T.e_Lane_clear
  have nd := sc_Lane_clear.nd
  refine fn_h (k := 2 * k + 1) (R := rn k) (fn := ⟨1, 1, false, b_Lane_clear⟩) F sc_Lane_clear hb rfl rfl (fun _ _ => rfl) (fun cdv A0 outer s H E hr => ?_)
  have hr0 := hr.mono (Nat.le_succ (2 * k))
  have hu := hu65 hr
  exact (ss_one (vs_fown (CH T) (L2.pv 0) (pv_lst pa_nilv) rfl))
theorem ok__law_draw {k : Nat} (T : Txt K mg C_Lane f_Lane___init__ f_Lane_put f_Lane_deliver f_Lane_has f_Lane_lose f_Lane_double f_Lane_hasten f_Lane_clear f__law_draw f__law_state) : FnH0 P w K mg base (cl C_Lane) (rn (k + 1)) 8 false (2 * (k + 1)) f__law_draw := by
  obtain ⟨fd, F, hb⟩ := T.e__law_draw
  have nd := sc__law_draw.nd
  refine draw_h (k := 2 * k + 1) (tD := tDrawA K) (dr := drawA) F sc__law_draw hb rfl (fun _ _ => rfl) (fun H a p m seed cells Dn hm nap ha hp kk => drawA_run rfl hm nap ha hp kk) (fun cdv A0 outer s H E hr => ?_)
  exact (L2.pss_cons (L2.ps_if (L2.pt_cmpR L2.op_lt (L2.pv 1) L2.pe_int (nomark _)) (L2.pss_one (L2.ps_ret L2.pe_int)) L2.pss_nil)
    (L2.pss_cons (L2.ps_set (i := 2) nd rfl (Or.inl rfl) (L2.pe_ix L2.ix_list (L2.pv 0) L2.pe_int (fun _ _ => rfl)))
    (L2.pss_cons (L2.ps_while PassesOwn.never (L2.PW.pt (L2.pw_and (L2.pt_cmpR L2.op_gt (L2.pe_callB L2.call_len_seq rfl T.n_len PySem.boot_len (L2.pa_cons (L2.pv 2) L2.pa_nil)) L2.pe_int (nomark _)) (L2.pw_and1 (L2.pt_cmpR L2.op_eq (L2.pe_ix L2.ix_list (L2.pv 2) L2.pe_int (fun _ _ => rfl)) L2.pe_int (nomark _))))) (L2.pss_one (L2.ps_expr (L2.pe_bm PySem.F.plainAttrs_list PySem.F.slot_list_pop PySem.F.type_list_pop L2.mt_popAt (L2.pv 2) (L2.pa_cons L2.pe_int L2.pa_nil)))))
    (L2.pss_cons (L2.ps_if (L2.pt_cmpR L2.op_gt (L2.pe_callB L2.call_len_seq rfl T.n_len PySem.boot_len (L2.pa_cons (L2.pv 2) L2.pa_nil)) L2.pe_int (nomark _)) (L2.pss_cons (L2.ps_set (i := 3) nd rfl (Or.inl rfl) (L2.pe_ix L2.ix_list (L2.pv 2) L2.pe_int (fun _ _ => rfl))) (L2.pss_cons (L2.ps_asg (L2.pe_op L2.op_fdiv (L2.pv 3) (L2.pv 1)) (L2.pg_sub (L2.pv 2) L2.pe_int L2.set_list)) (L2.pss_one (L2.ps_ret (L2.pe_op L2.op_mod (L2.pe_callTy L2.call_int1 rfl T.n_int (by decide +kernel) (L2.pa_cons (L2.pv 3) L2.pa_nil)) (L2.pv 1)))))) L2.pss_nil) (L2.pss_cons (L2.ps_set (i := 4) nd rfl (Or.inl rfl) (L2.pe_op L2.op_mod (L2.pe_callTy L2.call_int1 rfl T.n_int (by decide +kernel) (L2.pa_cons (L2.pe_op L2.op_add (L2.pe_op L2.op_mul (L2.pe_ix L2.ix_list (L2.pv 0) L2.pe_int (fun _ _ => rfl)) L2.pe_int) L2.pe_int) L2.pa_nil)) L2.pe_int))
    (L2.pss_cons (L2.ps_asg (L2.pv 4) (L2.pg_sub (L2.pv 0) L2.pe_int L2.set_list)) (L2.pss_one (L2.ps_ret (L2.pe_op L2.op_mod (L2.pe_callTy L2.call_int1 rfl T.n_int (by decide +kernel) (L2.pa_cons (L2.pe_op L2.op_fdiv (L2.pv 4) L2.pe_int) L2.pa_nil)) (L2.pv 1))))))))))
theorem ok__law_state (T : Txt K mg C_Lane f_Lane___init__ f_Lane_put f_Lane_deliver f_Lane_has f_Lane_lose f_Lane_double f_Lane_hasten f_Lane_clear f__law_draw f__law_state) : ∃ fd, FnOk P w K mg base CX0 1 f__law_state fd ["_law_script"] (spState K) ∧ Binds K fd ["_law_script"] [] := by
  obtain ⟨fd, F, hb⟩ := T.e__law_state
  have nd := sc__law_state.nd
  refine ⟨fd, state_ok (k := 0) (s0 := 7) (mul := 31) F sc__law_state rfl rfl (by decide) (fun cdv A0 outer s H E hr => ?_), hb⟩
  exact L2.pss_cons (L2.ps_set (i := 1) nd rfl (Or.inl rfl) L2.pe_int) (L2.pss_cons (L2.ps_for PassesOwn.never rfl (L2.pi_list (L2.pv 0)) (L2.pg_name (i := 2) nd rfl (Or.inl rfl)) (L2.pss_one (L2.ps_set (i := 1) nd rfl (Or.inl rfl) (L2.pe_op L2.op_mod (L2.pe_callTy L2.call_int1 rfl T.n_int (by decide +kernel) (L2.pa_cons (L2.pe_op L2.op_add (L2.pe_op L2.op_mul (L2.pv 1) L2.pe_int) (L2.pv 2)) L2.pa_nil)) L2.pe_int))))
    (L2.pss_one (L2.ps_ret (L2.pe_lst (L2.pa_cons (L2.pe_lc (own := [("_law_cell", 2)]) (g := gName 2) (tt := tYes) rfl nd (L2.pi_list (L2.pv 0)) (L2.blkOk_by (N := ["_law_script", "_law_seed", "_law_cell"]) (sc := defScope s__law_state) (by decide +kernel)) (fun _ _ _ _ _ => L2.pg_name (i := 2) nd rfl (Or.inl rfl)) (fun _ _ _ _ _ => L2.pts_nil)
      (fun _ _ _ _ _ => L2.pe_callB L2.call_abs rfl T.n_abs (by decide +kernel) (L2.pa_cons (L2.pv 2) L2.pa_nil))) (L2.pa_cons (L2.pe_op L2.op_add (L2.pv 1) L2.pe_int) L2.pa_nil))))))
theorem all_ok (T : Txt K mg C_Lane f_Lane___init__ f_Lane_put f_Lane_deliver f_Lane_has f_Lane_lose f_Lane_double f_Lane_hasten f_Lane_clear f__law_draw f__law_state) : ∀ k, AllF P w K mg base C_Lane f_Lane___init__ f_Lane_put f_Lane_deliver f_Lane_has f_Lane_lose f_Lane_double f_Lane_hasten f_Lane_clear f__law_draw f__law_state k
  | 0 => by
    refine ⟨?_, ?_, ?_, ?_, ?_, ?_, ?_, ?_, ?_⟩
    · obtain ⟨fd, F, hb⟩ := T.e_Lane___init__
      exact fn_h0 F hb fun _ _ => rfl
    · obtain ⟨fd, F, hb⟩ := T.e_Lane_put
      exact fn_h0 F hb fun _ _ => rfl
    · obtain ⟨fd, F, hb⟩ := T.e_Lane_deliver
      exact fn_h0 F hb fun _ _ => rfl
    · obtain ⟨fd, F, hb⟩ := T.e_Lane_has
      exact fn_h0 F hb fun _ _ => rfl
    · obtain ⟨fd, F, hb⟩ := T.e_Lane_lose
      exact fn_h0 F hb fun _ _ => rfl
    · obtain ⟨fd, F, hb⟩ := T.e_Lane_double
      exact fn_h0 F hb fun _ _ => rfl
    · obtain ⟨fd, F, hb⟩ := T.e_Lane_hasten
      exact fn_h0 F hb fun _ _ => rfl
    · obtain ⟨fd, F, hb⟩ := T.e_Lane_clear
      exact fn_h0 F hb fun _ _ => rfl
    · obtain ⟨fd, F, hb⟩ := T.e__law_draw
      exact fn_h0 F hb fun _ _ => rfl
  | k + 1 => by
    have A := all_ok T k
    exact ⟨ok_Lane___init__ A T, ok_Lane_put A T, ok_Lane_deliver A T, ok_Lane_has A T, ok_Lane_lose A T, ok_Lane_double A T, ok_Lane_hasten A T, ok_Lane_clear A T, ok__law_draw T⟩
def Keeps : Prop := ∀ cells seed, ∃ s, b_law (rn 40) (none :: some (.val (.obj 0)) :: List.replicate 9 none) [.drw cells seed] = some (.rt (.bl true) s)
set_option maxHeartbeats 8000000 in
theorem ok_law {f : Addr} {fd : FuncData} (F : Fun K "law" "law" s_law f fd) (T : Txt K mg C_Lane f_Lane___init__ f_Lane_put f_Lane_deliver f_Lane_has f_Lane_lose f_Lane_double f_Lane_hasten f_Lane_clear f__law_draw f__law_state) (run : Keeps) : FnOk P w K mg base CX0 82 f fd ["_law_script"] (spLaw K) := by
  have A := all_ok (P := P) (w := w) (base := base) T 40
  have nd := sc_law.nd
  obtain ⟨fs, FS, bS⟩ := ok__law_state (P := P) (w := w) (base := base) T
  refine law_ok (cl := (cl C_Lane)) (k := 81) (Fb := b_law (rn 40)) F sc_law rfl (by decide) run (fun cdv A0 outer s H E hr => ?_)
  have hr0 := hr.mono (Nat.le_succ 80)
  have hu := hu65 hr
  refine pss_cons (ps_set (i := 1) nd rfl (Or.inl rfl) (pe_call FS (hr.mono (by decide)) rfl T.m__law_state T.k__law_state bS .nil pass0 (pa_cons (L2.pv 0) pa_nil))) ?_
  exact (ss_cons (vs_asg (pv_make (A.mk_Lane T) hr rfl T.m_Lane pc_nil (fun _ => rfl) rfl rfl) (fun h => L2.ps_set (i := 2) nd rfl (Or.inl rfl) h))
    (ss_cons (vs_asg (pv_s (pv_lst pa_nilv)) (fun h => L2.ps_set (i := 3) nd rfl (Or.inl rfl) h))
    (ss_cons (vs_asg (pv_call (ro := false) A.h__law_draw hr0 rfl T.m__law_draw T.k__law_draw (pc_b (L2.pv 1) (pc_v (pv_p st_c pp_int) pc_nil (star_cons rfl)) (star_cons rfl)) rfl rfl) (fun h => L2.ps_set (i := 4) nd rfl (Or.inl rfl) h))
    (ss_cons (vs_for PassesOwn.never rfl (pi_r1 rfl T.n_range rfl (pv_p st_var (pp_var (L2.pv 4)))) (L2.pg_name (i := 5) nd rfl (Or.inl rfl)) tg_n (ss_cons (vs_asg (pv_call (ro := false) A.h__law_draw hr0 rfl T.m__law_draw T.k__law_draw (pc_b (L2.pv 1) (pc_v (pv_p st_c pp_int) pc_nil (star_cons rfl)) (star_cons rfl)) rfl rfl) (fun h => L2.ps_set (i := 6) nd rfl (Or.inl rfl) h))
    (ss_cons (vs_asg (pv_call (ro := false) A.h__law_draw hr0 rfl T.m__law_draw T.k__law_draw (pc_b (L2.pv 1) (pc_v (pv_s (v_bin k_add (two_tp (pv_ts (pv_s (v_len rfl T.n_len rfl (pv_ts (pv_p st_var (pp_var (L2.pv 3))))))) pp_int st_c))) pc_nil (star_cons rfl)) (star_cons rfl)) rfl rfl) (fun h => L2.ps_set (i := 7) nd rfl (Or.inl rfl) h))
    (ss_cons (vs_if (t_cmp (k_lt hu) (two_tp (pv_ts (pv_p st_var (pp_var (L2.pv 6)))) pp_int st_c) (nomark _)) (ss_cons (vs_expr (pv_meth (rr := false) (A.mth T) hr0 (pv_p st_var (pp_var (L2.pv 2))) (pc_v (pv_s (v_bin k_add (two_bt (pv_bs (pv_p st_c pp_str)) (pv_ts (pv_s (v_str rfl T.n_str rfl (pv_ts (pv_p st_var (pp_var (L2.pv 5)))))))))) pc_nil (star_cons rfl)) (fun h => by cases h) (ro_of (by decide +kernel)) rfl rfl (by decide) rfl) rfl)
    (ss_one (vs_asg (pv_s (pv_slc (pv_bs (pv_s (v_bin k_add (two_bt (pv_bs (pv_p st_var (pp_var (L2.pv 3)))) (pv_ts (pv_s (pv_lst (pa_consv (pv_s (v_bin k_add (two_bt (pv_bs (pv_p st_c pp_str)) (pv_ts (pv_s (v_str rfl T.n_str rfl (pv_ts (pv_p st_var (pp_var (L2.pv 5)))))))))) pa_nilv (star_cons rfl))))))))) po_nonev (po_somev (pv_p st_c pp_int)))) (fun h => L2.ps_set (i := 3) nd rfl (Or.inl rfl) h)))) (ss_one (vs_if (t_cmp (k_eq hu) (two_tp (pv_ts (pv_p st_var (pp_var (L2.pv 6)))) pp_int st_c) (nomark _)) (ss_cons (vs_asg (pv_if (t_cmp k_gt (two_tp (pv_ts (pv_s (v_len rfl T.n_len rfl (pv_ts (pv_p st_var (pp_var (L2.pv 3))))))) pp_int st_c) (nomark _)) (v_idx (fun _ _ => rfl) (two_tp (pv_ts (pv_p st_var (pp_var (L2.pv 3)))) pp_int st_c)) (pv_p st_c pp_non)) (fun h => L2.ps_set (i := 8) nd rfl (Or.inl rfl) h))
    (ss_cons (vs_if (t_cmp (k_ne hu) (two_tp (pv_ts (pv_meth (rr := false) (A.mth T) hr0 (pv_p st_var (pp_var (L2.pv 2))) pc_nil (fun _ => rfl) (ro_of (by decide +kernel)) rfl rfl (by decide) rfl)) (pp_var (L2.pv 8)) st_var) (nomark _)) (ss_one (vs_ret (pv_p st_c pp_bl))) ss_nil)
    (ss_one (vs_asg (pv_s (pv_slc (pv_bs (pv_p st_var (pp_var (L2.pv 3)))) (po_somev (pv_p st_c pp_int)) po_nonev)) (fun h => L2.ps_set (i := 3) nd rfl (Or.inl rfl) h))))) (ss_one (vs_if (t_cmp (k_eq hu) (two_tp (pv_ts (pv_p st_var (pp_var (L2.pv 6)))) pp_int st_c) (nomark _)) (ss_one (vs_if (t_cmp (k_eq hu) (two_tp (pv_ts (pv_call (ro := false) A.h__law_draw hr0 rfl T.m__law_draw T.k__law_draw (pc_b (L2.pv 1) (pc_v (pv_p st_c pp_int) pc_nil (star_cons rfl)) (star_cons rfl)) rfl rfl)) pp_int st_c) (nomark _)) (ss_cons (vs_expr (pv_meth (rr := false) (A.mth T) hr0 (pv_p st_var (pp_var (L2.pv 2))) pc_nil (fun _ => rfl) (ro_of (by decide +kernel)) rfl rfl (by decide) rfl) rfl)
    (ss_one (vs_asg (pv_s (pv_lst pa_nilv)) (fun h => L2.ps_set (i := 3) nd rfl (Or.inl rfl) h)))) ss_nil)) (ss_cons (vs_asg (pv_s (v_cmp (k_lt hu) (two_bt (pv_bs (pv_p st_var (pp_var (L2.pv 7)))) (pv_ts (pv_s (v_len rfl T.n_len rfl (pv_ts (pv_p st_var (pp_var (L2.pv 3)))))))) (nomark _))) (fun h => L2.ps_set (i := 9) nd rfl (Or.inl rfl) h))
    (ss_cons (vs_asg (pv_if (t_cmp (k_eq hu) (two_tp (pv_ts (pv_p st_var (pp_var (L2.pv 6)))) pp_int st_c) (nomark _)) (pv_meth (rr := false) (A.mth T) hr0 (pv_p st_var (pp_var (L2.pv 2))) (pc_b (L2.pv 7) pc_nil (star_cons rfl)) (fun h => by cases h) (ro_of (by decide +kernel)) rfl rfl (by decide) rfl) (pv_if (t_cmp (k_eq hu) (two_tp (pv_ts (pv_p st_var (pp_var (L2.pv 6)))) pp_int st_c) (nomark _)) (pv_meth (rr := false) (A.mth T) hr0 (pv_p st_var (pp_var (L2.pv 2))) (pc_b (L2.pv 7) pc_nil (star_cons rfl)) (fun h => by cases h) (ro_of (by decide +kernel)) rfl rfl (by decide) rfl) (pv_meth (rr := false) (A.mth T) hr0 (pv_p st_var (pp_var (L2.pv 2))) (pc_b (L2.pv 7) pc_nil (star_cons rfl)) (fun h => by cases h) (ro_of (by decide +kernel)) rfl rfl (by decide) rfl))) (fun h => L2.ps_set (i := 10) nd rfl (Or.inl rfl) h))
    (ss_cons (vs_if (L2.PW.pt (pw_orv (pt_notv (pt_of (pv_s (v_isi (t := .bool) rfl T.n_isinstance rfl T.n_bool rfl (pv_ts (pv_p st_var (pp_var (L2.pv 10)))))) (fun _ => rfl))) (pw_or1v (t_cmp (k_ne hu) (two_tp (pv_ts (pv_p st_var (pp_var (L2.pv 10)))) (pp_var (L2.pv 9)) st_var) (nomark _))))) (ss_one (vs_ret (pv_p st_c pp_bl))) ss_nil)
    (ss_one (vs_if (pt_of (pv_p st_var (pp_var (L2.pv 9))) (fun _ => rfl)) (ss_one (vs_asg (v_idx (fun _ _ => rfl) (two_bt (pv_bs (pv_s (pv_lst (pa_consv (pv_s (v_bin k_add (two_bt (pv_bs (pv_s (pv_slc (pv_bs (pv_p st_var (pp_var (L2.pv 3)))) po_nonev (po_somev (pv_p st_var (pp_var (L2.pv 7))))))) (pv_ts (pv_s (pv_slc (pv_bs (pv_p st_var (pp_var (L2.pv 3)))) (po_somev (pv_s (v_bin k_add (two_tp (pv_ts (pv_p st_var (pp_var (L2.pv 7)))) pp_int st_c)))) po_nonev)))))) (pa_consv (pv_s (pv_slc (pv_bs (pv_s (v_bin k_add (two_bt (pv_bs (pv_p st_var (pp_var (L2.pv 3)))) (pv_ts (pv_s (pv_lst (pa_consv (v_idx (fun _ _ => rfl) (two_tp (pv_ts (pv_p st_var (pp_var (L2.pv 3)))) (pp_var (L2.pv 7)) st_var)) pa_nilv (star_cons rfl))))))))) po_nonev (po_somev (pv_p st_c pp_int)))) (pa_consv (pv_s (v_bin k_add (two_bt (pv_bs (pv_s (v_bin k_add (two_bt (pv_bs (pv_s (pv_lst (pa_consv (v_idx (fun _ _ => rfl) (two_tp (pv_ts (pv_p st_var (pp_var (L2.pv 3)))) (pp_var (L2.pv 7)) st_var)) pa_nilv (star_cons rfl))))) (pv_ts (pv_s (pv_slc (pv_bs (pv_p st_var (pp_var (L2.pv 3)))) po_nonev (po_somev (pv_p st_var (pp_var (L2.pv 7))))))))))) (pv_ts (pv_s (pv_slc (pv_bs (pv_p st_var (pp_var (L2.pv 3)))) (po_somev (pv_s (v_bin k_add (two_tp (pv_ts (pv_p st_var (pp_var (L2.pv 7)))) pp_int st_c)))) po_nonev)))))) pa_nilv (star_cons rfl)) (star_cons rfl)) (star_cons rfl))))) (pv_ts (pv_s (v_bin k_sub (two_tp (pv_ts (pv_p st_var (pp_var (L2.pv 6)))) pp_int st_c)))))) (fun h => L2.ps_set (i := 3) nd rfl (Or.inl rfl) h))) ss_nil))))))))))
    (ss_one (vs_if (t_cmp (k_ne hu) (two_tp (pv_bfld (CH T) (pv_p st_var (pp_var (L2.pv 2))) rfl) (pp_var (L2.pv 3)) st_var) (nomark _)) (ss_one (vs_ret (pv_p st_c pp_bl))) ss_nil))))) (fun _ => rfl))
    (ss_one (vs_ret (pv_p st_c pp_bl)))))))
end
theorem all_mk {l : PySem.W.OpenLaw} {w : World} {K : PySem.W.Frag} {h : Heap} {mg : Str → Option Value} {fa C_Lane f_Lane___init__ f_Lane_put f_Lane_deliver f_Lane_has f_Lane_lose f_Lane_double f_Lane_hasten f_Lane_clear f__law_draw f__law_state f_law : Addr} (run : Keeps) (X : K.In h) (G : h.Ns mainGlobals mg) (hfa : mg "law" = some (.ref fa))
    {od0 an0 od1 an1 od2 an2 od3 an3 od4 an4 od5 an5 od6 an6 od7 an7 od8 an8 od9 an9 od10 an10 : Option Addr} {sl0 sl1 sl2 sl3 sl4 sl5 sl6 sl7 sl8 sl9 sl10 : Array (Option Value)} {oc0 kV0 dc0 pm0 cd0 ct0 oc1 kV1 dc1 pm1 cd1 ct1 oc2 kV2 dc2 pm2 cd2 ct2 oc3 kV3 dc3 pm3 cd3 ct3 oc4 kV4 dc4 pm4 cd4 ct4 oc5 kV5 dc5 pm5 cd5 ct5 oc6 kV6 dc6 pm6 cd6 ct6 oc7 kV7 dc7 pm7 cd7 ct7 oc8 kV8 dc8 pm8 cd8 ct8 oc9 kV9 dc9 pm9 cd9 ct9 oc10 kV10 dc10 pm10 cd10 ct10 : Value} {t_MOST_FRAMES : Tok}
    (n_abs : PySem.W.nsIn K mainGlobals "abs" = some none)
    (n_bool : PySem.W.nsIn K mainGlobals "bool" = some none)
    (n_int : PySem.W.nsIn K mainGlobals "int" = some none)
    (n_isinstance : PySem.W.nsIn K mainGlobals "isinstance" = some none)
    (n_len : PySem.W.nsIn K mainGlobals "len" = some none)
    (n_range : PySem.W.nsIn K mainGlobals "range" = some none)
    (n_str : PySem.W.nsIn K mainGlobals "str" = some none)
    (m_MOST_FRAMES : PySem.W.nsIn K mainGlobals "MOST_FRAMES" = some (some (.int 32 t_MOST_FRAMES)))
    (aC_Lane : PySem.W.nsIn K mainGlobals "Lane" = some (some (.ref C_Lane)))
    (pg_Lane : PySem.W.plainGet K C_Lane Str.empty = true)
    (hd_Lane : PySem.W.hasDictIn K C_Lane = true)
    (po_Lane : PySem.W.plainOver K C_Lane = true)
    (sa_Lane : PySem.W.findIn K (.ref C_Lane) "__setattr__" = some (some (.builtin "object.__setattr__")))
    (mk_Lane : PySem.W.makesIn K C_Lane = true)
    (kc_Lane : PySem.W.keepIn K (.ref C_Lane) = true)
    (na_Lane_frames : PySem.W.findIn K (.ref C_Lane) "frames" = some none)
    (a0 : PySem.W.findIn K (.ref C_Lane) "__init__" = some (some (.ref f_Lane___init__)))
    (i0 : PySem.W.isFn K (.ref f_Lane___init__) = true)
    (l0 : K.lookup f_Lane___init__ = some ⟨oc0, od0, .func (PySem.W.fnOf "__init__" "Lane.__init__" (defArgs s_Lane___init__) (defBody s_Lane___init__) (defScope s_Lane___init__) .none kV0 dc0 pm0 an0 cd0 ct0), sl0⟩)
    (c0 : PySem.W.codeIn K cd0 "Lane.__init__" = true)
    (k0 : PySem.W.keepIn K (.ref f_Lane___init__) = true)
    (a1 : PySem.W.findIn K (.ref C_Lane) "put" = some (some (.ref f_Lane_put)))
    (i1 : PySem.W.isFn K (.ref f_Lane_put) = true)
    (l1 : K.lookup f_Lane_put = some ⟨oc1, od1, .func (PySem.W.fnOf "put" "Lane.put" (defArgs s_Lane_put) (defBody s_Lane_put) (defScope s_Lane_put) .none kV1 dc1 pm1 an1 cd1 ct1), sl1⟩)
    (c1 : PySem.W.codeIn K cd1 "Lane.put" = true)
    (k1 : PySem.W.keepIn K (.ref f_Lane_put) = true)
    (a2 : PySem.W.findIn K (.ref C_Lane) "deliver" = some (some (.ref f_Lane_deliver)))
    (i2 : PySem.W.isFn K (.ref f_Lane_deliver) = true)
    (l2 : K.lookup f_Lane_deliver = some ⟨oc2, od2, .func (PySem.W.fnOf "deliver" "Lane.deliver" (defArgs s_Lane_deliver) (defBody s_Lane_deliver) (defScope s_Lane_deliver) .none kV2 dc2 pm2 an2 cd2 ct2), sl2⟩)
    (c2 : PySem.W.codeIn K cd2 "Lane.deliver" = true)
    (k2 : PySem.W.keepIn K (.ref f_Lane_deliver) = true)
    (a3 : PySem.W.findIn K (.ref C_Lane) "has" = some (some (.ref f_Lane_has)))
    (i3 : PySem.W.isFn K (.ref f_Lane_has) = true)
    (l3 : K.lookup f_Lane_has = some ⟨oc3, od3, .func (PySem.W.fnOf "has" "Lane.has" (defArgs s_Lane_has) (defBody s_Lane_has) (defScope s_Lane_has) .none kV3 dc3 pm3 an3 cd3 ct3), sl3⟩)
    (c3 : PySem.W.codeIn K cd3 "Lane.has" = true)
    (k3 : PySem.W.keepIn K (.ref f_Lane_has) = true)
    (a4 : PySem.W.findIn K (.ref C_Lane) "lose" = some (some (.ref f_Lane_lose)))
    (i4 : PySem.W.isFn K (.ref f_Lane_lose) = true)
    (l4 : K.lookup f_Lane_lose = some ⟨oc4, od4, .func (PySem.W.fnOf "lose" "Lane.lose" (defArgs s_Lane_lose) (defBody s_Lane_lose) (defScope s_Lane_lose) .none kV4 dc4 pm4 an4 cd4 ct4), sl4⟩)
    (c4 : PySem.W.codeIn K cd4 "Lane.lose" = true)
    (k4 : PySem.W.keepIn K (.ref f_Lane_lose) = true)
    (a5 : PySem.W.findIn K (.ref C_Lane) "double" = some (some (.ref f_Lane_double)))
    (i5 : PySem.W.isFn K (.ref f_Lane_double) = true)
    (l5 : K.lookup f_Lane_double = some ⟨oc5, od5, .func (PySem.W.fnOf "double" "Lane.double" (defArgs s_Lane_double) (defBody s_Lane_double) (defScope s_Lane_double) .none kV5 dc5 pm5 an5 cd5 ct5), sl5⟩)
    (c5 : PySem.W.codeIn K cd5 "Lane.double" = true)
    (k5 : PySem.W.keepIn K (.ref f_Lane_double) = true)
    (a6 : PySem.W.findIn K (.ref C_Lane) "hasten" = some (some (.ref f_Lane_hasten)))
    (i6 : PySem.W.isFn K (.ref f_Lane_hasten) = true)
    (l6 : K.lookup f_Lane_hasten = some ⟨oc6, od6, .func (PySem.W.fnOf "hasten" "Lane.hasten" (defArgs s_Lane_hasten) (defBody s_Lane_hasten) (defScope s_Lane_hasten) .none kV6 dc6 pm6 an6 cd6 ct6), sl6⟩)
    (c6 : PySem.W.codeIn K cd6 "Lane.hasten" = true)
    (k6 : PySem.W.keepIn K (.ref f_Lane_hasten) = true)
    (a7 : PySem.W.findIn K (.ref C_Lane) "clear" = some (some (.ref f_Lane_clear)))
    (i7 : PySem.W.isFn K (.ref f_Lane_clear) = true)
    (l7 : K.lookup f_Lane_clear = some ⟨oc7, od7, .func (PySem.W.fnOf "clear" "Lane.clear" (defArgs s_Lane_clear) (defBody s_Lane_clear) (defScope s_Lane_clear) .none kV7 dc7 pm7 an7 cd7 ct7), sl7⟩)
    (c7 : PySem.W.codeIn K cd7 "Lane.clear" = true)
    (k7 : PySem.W.keepIn K (.ref f_Lane_clear) = true)
    (a8 : PySem.W.nsIn K mainGlobals "_law_draw" = some (some (.ref f__law_draw)))
    (l8 : K.lookup f__law_draw = some ⟨oc8, od8, .func (PySem.W.fnOf "_law_draw" "_law_draw" (defArgs s__law_draw) (defBody s__law_draw) (defScope s__law_draw) .none kV8 dc8 pm8 an8 cd8 ct8), sl8⟩)
    (c8 : PySem.W.codeIn K cd8 "_law_draw" = true)
    (k8 : PySem.W.keepIn K (.ref f__law_draw) = true)
    (a9 : PySem.W.nsIn K mainGlobals "_law_state" = some (some (.ref f__law_state)))
    (l9 : K.lookup f__law_state = some ⟨oc9, od9, .func (PySem.W.fnOf "_law_state" "_law_state" (defArgs s__law_state) (defBody s__law_state) (defScope s__law_state) .none kV9 dc9 pm9 an9 cd9 ct9), sl9⟩)
    (c9 : PySem.W.codeIn K cd9 "_law_state" = true)
    (k9 : PySem.W.keepIn K (.ref f__law_state) = true)
    (a10 : PySem.W.nsIn K mainGlobals "law" = some (some (.ref f_law)))
    (l10 : K.lookup f_law = some ⟨oc10, od10, .func (PySem.W.fnOf "law" "law" (defArgs s_law) (defBody s_law) (defScope s_law) .none kV10 dc10 pm10 an10 cd10 ct10), sl10⟩)
    (c10 : PySem.W.codeIn K cd10 "law" = true)
    (k10 : PySem.W.keepIn K (.ref f_law) = true)
    : ∃ fd : FuncData, (∀ (s : Shared) (v : Value), BindsTo s fd ⟨[v], []⟩ [("_law_script", v)]) ∧ ∀ base : Heap, K.In base → base.Ns mainGlobals mg → FnOk l.prog w K mg base CX0 82 fa fd ["_law_script"] (spLaw K) := by
  have e := hfa.symm.trans (PySem.W.mg_of X G a10)
  cases e
  have T : Txt K mg C_Lane f_Lane___init__ f_Lane_put f_Lane_deliver f_Lane_has f_Lane_lose f_Lane_double f_Lane_hasten f_Lane_clear f__law_draw f__law_state := ⟨
    PySem.W.mg_none_of X G n_abs,
    PySem.W.mg_none_of X G n_bool,
    PySem.W.mg_none_of X G n_int,
    PySem.W.mg_none_of X G n_isinstance,
    PySem.W.mg_none_of X G n_len,
    PySem.W.mg_none_of X G n_range,
    PySem.W.mg_none_of X G n_str,
    ⟨_, PySem.W.mg_of X G m_MOST_FRAMES⟩,
    ⟨pg_Lane, hd_Lane, po_Lane, sa_Lane⟩,
    PySem.W.mg_of X G aC_Lane,
    na_Lane_frames,
    ⟨mk_Lane, a0, i0, kc_Lane⟩,
    ⟨a1, i1, k1⟩,
    ⟨a2, i2, k2⟩,
    ⟨a3, i3, k3⟩,
    ⟨a4, i4, k4⟩,
    ⟨a5, i5, k5⟩,
    ⟨a6, i6, k6⟩,
    ⟨a7, i7, k7⟩,
    k0,
    ⟨_, fun_mk (st := s_Lane___init__) l0 c0 k0, (fun_mk (st := s_Lane___init__) l0 c0 k0).binds (ps := ["self"]) fun _ _ _ _ _ _ us hl => match us, hl with | [_], _ => rfl⟩,
    k1,
    ⟨_, fun_mk (st := s_Lane_put) l1 c1 k1, (fun_mk (st := s_Lane_put) l1 c1 k1).binds (ps := ["self", "text"]) fun _ _ _ _ _ _ us hl => match us, hl with | [_, _], _ => rfl⟩,
    k2,
    ⟨_, fun_mk (st := s_Lane_deliver) l2 c2 k2, (fun_mk (st := s_Lane_deliver) l2 c2 k2).binds (ps := ["self"]) fun _ _ _ _ _ _ us hl => match us, hl with | [_], _ => rfl⟩,
    k3,
    ⟨_, fun_mk (st := s_Lane_has) l3 c3 k3, (fun_mk (st := s_Lane_has) l3 c3 k3).binds (ps := ["self", "at"]) fun _ _ _ _ _ _ us hl => match us, hl with | [_, _], _ => rfl⟩,
    k4,
    ⟨_, fun_mk (st := s_Lane_lose) l4 c4 k4, (fun_mk (st := s_Lane_lose) l4 c4 k4).binds (ps := ["self", "at"]) fun _ _ _ _ _ _ us hl => match us, hl with | [_, _], _ => rfl⟩,
    k5,
    ⟨_, fun_mk (st := s_Lane_double) l5 c5 k5, (fun_mk (st := s_Lane_double) l5 c5 k5).binds (ps := ["self", "at"]) fun _ _ _ _ _ _ us hl => match us, hl with | [_, _], _ => rfl⟩,
    k6,
    ⟨_, fun_mk (st := s_Lane_hasten) l6 c6 k6, (fun_mk (st := s_Lane_hasten) l6 c6 k6).binds (ps := ["self", "at"]) fun _ _ _ _ _ _ us hl => match us, hl with | [_, _], _ => rfl⟩,
    k7,
    ⟨_, fun_mk (st := s_Lane_clear) l7 c7 k7, (fun_mk (st := s_Lane_clear) l7 c7 k7).binds (ps := ["self"]) fun _ _ _ _ _ _ us hl => match us, hl with | [_], _ => rfl⟩,
    PySem.W.mg_of X G a8,
    k8,
    ⟨_, fun_mk (st := s__law_draw) l8 c8 k8, (fun_mk (st := s__law_draw) l8 c8 k8).binds (ps := ["_law_state_here", "_law_many"]) fun _ _ _ _ _ _ us hl => match us, hl with | [_, _], _ => rfl⟩,
    PySem.W.mg_of X G a9,
    k9,
    ⟨_, fun_mk (st := s__law_state) l9 c9 k9, (fun_mk (st := s__law_state) l9 c9 k9).binds (ps := ["_law_script"]) fun _ _ _ _ _ _ us hl => match us, hl with | [_], _ => rfl⟩⟩
  exact ⟨PySem.W.fnOf "law" "law" (defArgs s_law) (defBody s_law) (defScope s_law) .none kV10 dc10 pm10 an10 cd10 ct10, fun s v => .of_eq rfl, fun base _ _ => ok_law (fun_mk (st := s_law) l10 c10 k10) T run⟩
theorem walk {l : PySem.W.OpenLaw} {q : Program} {loose : List Str} {XP : (Str → Option Value) → Heap → Prop} {YP : World → Heap → Prop} {d : DefRec} {K : Params → PySem.W.Frag} (hn : l.most = some 63) (hdf : d.params.defaults = [])
    (hY : ∀ (w : World) (h : Heap), YP w h → (K w.params).In h)
    (F : ∀ (w : World) (mg : Str → Option Value) (fa : Addr) (h : Heap), (K w.params).In h → h.Ns mainGlobals mg → mg d.name = some (.ref fa) →
      ∃ fd : FuncData, (∀ (s : Shared) (u : Value), BindsTo s fd ⟨[u], []⟩ [("_law_script", u)]) ∧ ∀ base : Heap, (K w.params).In base → base.Ns mainGlobals mg → FnOk l.prog w (K w.params) mg base CX0 82 fa fd ["_law_script"] (spLaw (K w.params))) :
    PySem.W.WalkO q loose XP YP l.row.toRowW d [] (fun f vs => PySem.call f vs) :=
  L2.walk_of (n := 63) (k := 82) (x := "_law_script") (CX := fun _ => CX0) (sp := fun w => spLaw (K w.params)) hn (by decide) hdf ⟨rfl, by decide, by decide⟩ hY F (fun _ _ a ns hl hO hS => ⟨a, ns, rfl, hS, hl, hO, fun _ => rfl⟩) fun _ _ _ _ _ z => z
end Law
namespace Law
open PySem L2 PI
abbrev LN (ys : List D) : SObj := .ins 0 [("frames", .own (.lst ys))]
theorem r_put {k : Nat} {a : SObj} {ys : List D} {d : D} (h : ys.length ≤ 32) : rn (k + 1) 1 [.val (.obj 1), .val d] [a, LN ys] = some (.non, [a, LN ((ys ++ [d]).take 32)]) := by
  rw [rn_step rfl rfl]
  by_cases hl : ys.length < 32
  · have h2 : ys.length < LIM := by unfold LIM; omega
    have h3 : ((ys.length : Nat) : Int) < 32 := by omega
    have h4 : (ys ++ [d]).take 32 = ys ++ [d] := List.take_of_length_le (by simp; omega)
    simp [runFn, b_Lane_put, LN, h2, h3, h4]
  · have h3 : ¬ ((ys.length : Nat) : Int) < 32 := by omega
    have h4 : (ys ++ [d]).take 32 = ys := by rw [List.take_append_of_le_length (by omega), List.take_of_length_le h]
    simp [runFn, b_Lane_put, LN, h3, h4]
theorem r_init {k : Nat} {a : SObj} : rn (k + 1) 0 [.val (.obj 1)] [a, .ins 0 []] = some (.non, [a, LN []]) := by
  rw [rn_step rfl rfl]
  have h0 : (0 : Nat) ≤ LIM := Nat.zero_le _
  simp [runFn, b_Lane___init__, LN, D.isLD]
theorem r_clear {k : Nat} {a : SObj} {ys : List D} : rn (k + 1) 7 [.val (.obj 1)] [a, LN ys] = some (.non, [a, LN []]) := by
  rw [rn_step rfl rfl]
  simp [runFn, b_Lane_clear, LN, D.isLD]
theorem r_deliver {k : Nat} {a : SObj} {ys : List D} : rn (k + 1) 2 [.val (.obj 1)] [a, LN ys] = some (ys.head?.getD .non, [a, LN ys.tail]) := by
  rw [rn_step rfl rfl]
  cases ys with
  | nil => simp [runFn, b_Lane_deliver, LN]
  | cons y r =>
    have h1 : (0 : Int) < ((r.length : Nat) : Int) + 1 := by omega
    have h2 : ixOf (r.length + 1) 0 = some 0 := ix_at rfl (by omega)
    have ho : okR 0 = true := by decide
    simp [runFn, b_Lane_deliver, LN, h1, h2, ho]
theorem r_has {k : Nat} {a : SObj} {ys : List D} {i : Int} : rn (k + 1) 3 [.val (.obj 1), .val (.int i)] [a, LN ys] = some (.bl (decide (0 ≤ i) && decide (i < ys.length)), [a, LN ys]) := by
  rw [rn_step rfl rfl]
  by_cases h : 0 ≤ i
  · simp [runFn, b_Lane_has, LN, h]
  · simp [runFn, b_Lane_has, LN, h]
theorem r_lose {k j : Nat} {a : SObj} {ys : List D} (hj : j ≤ 100) : rn (k + 2) 4 [.val (.obj 1), .val (.int j)] [a, LN ys] = some (.bl (decide (j < ys.length)), [a, LN (ys.eraseIdx j)]) := by
  rw [rn_step rfl rfl]
  have ho : okR (j : Int) = true := okR_small (by omega) (by omega)
  by_cases h : j < ys.length
  · have h2 : ixOf ys.length (j : Int) = some j := ix_at rfl h
    have h3 : ys[j]? = some ys[j] := List.getElem?_eq_getElem h
    simp [runFn, b_Lane_lose, LN, r_has, h, h2, ho]
  · have h4 : ys.eraseIdx j = ys := List.eraseIdx_of_length_le (by omega)
    simp [runFn, b_Lane_lose, LN, r_has, h, h4]
theorem r_double {k j : Nat} {a : SObj} {ys : List D} (hl : ys.length ≤ 32) : rn (k + 2) 5 [.val (.obj 1), .val (.int j)] [a, LN ys] = some (.bl (decide (j < ys.length)), [a, LN (match ys[j]? with | some d => (ys ++ [d]).take 32 | none => ys)]) := by
  rw [rn_step rfl rfl]
  by_cases h : j < ys.length
  · have h2 : ixOf ys.length (j : Int) = some j := ix_at rfl h
    have h3 : ys[j]? = some ys[j] := List.getElem?_eq_getElem h
    simp [runFn, b_Lane_double, LN, r_has, r_put hl, h, h2]
  · have h4 : ys[j]? = none := List.getElem?_eq_none (by omega)
    simp [runFn, b_Lane_double, LN, r_has, h, h4]
theorem r_hasten {k j : Nat} {a : SObj} {ys : List D} (hl : ys.length ≤ 32) (hj : j ≤ 100) : rn (k + 2) 6 [.val (.obj 1), .val (.int j)] [a, LN ys] = some (.bl (decide (j < ys.length)), [a, LN (match ys[j]? with | some d => d :: ys.eraseIdx j | none => ys)]) := by
  rw [rn_step rfl rfl]
  have ho : okR (j : Int) = true := okR_small (by omega) (by omega)
  by_cases h : j < ys.length
  · have h2 : ixOf ys.length (j : Int) = some j := ix_at rfl h
    have h3 : ys[j]? = some ys[j] := List.getElem?_eq_getElem h
    have h5 : (ys.eraseIdx j).length < LIM := by
      have := len_erase ys j
      unfold LIM; omega
    simp [runFn, b_Lane_hasten, LN, r_has, h, h2, ho, h5]
  · have h4 : ys[j]? = none := List.getElem?_eq_none (by omega)
    simp [runFn, b_Lane_hasten, LN, r_has, h, h4]

theorem r_draw {k n : Nat} {m : Int} {s : Sto} : rn (k + 1) 8 [.val (.obj n), .val (.int m)] s = pDraw drawA [.val (.obj n), .val (.int m)] s := rn_prim rfl
def tx (k : Nat) : Str := "f" ++ strI k
theorem tx_fit : ∀ k : Nat, k < 61 → D.fitN 59 (.str (tx k)) = true := by decide +kernel
theorem tx_len : ∀ k : Nat, k < 61 → ("f" : Str).length + (strI k).length ≤ LIM := by decide +kernel
theorem tx_log : ∀ k : Nat, k < 61 → strOk k = true := fun k h => strOk_of (by omega)
structure Inv (env : PI.Env) (s : Sto) : Prop where
  ex : ∃ (due : List D) (c : List Int) (sd : Int) (m4 e5 e6 e7 e8 e9 e10 : Option Cell), env = [none, some (.val (.obj 0)), some (.val (.obj 1)), some (.val (.lst due)), m4, e5, e6, e7, e8, e9, e10] ∧ s = [.drw c sd, LN due] ∧ due.length ≤ 32 ∧ ∀ d ∈ due, D.fitN 59 d = true
theorem due_eq {due : List D} (h : ∀ d ∈ due, D.fitN 59 d = true) : dEq (.lst due) (.lst due) = some true := eq_self (by
  show D.fitN 60 (.lst due) = true
  unfold D.fitN
  exact fitNs_of h)
theorem step {k j : Nat} {c : List Int} {sd : Int} {due : List D} {m4 e6 e7 e8 e9 e10 : Option Cell} (hj : j < 61) (hl : due.length ≤ 32) (hf : ∀ d ∈ due, D.fitN 59 d = true) :
    ∃ e2 s2, l_law_1 (rn (k + 10)) [none, some (.val (.obj 0)), some (.val (.obj 1)), some (.val (.lst due)), m4, some (.val (.int j)), e6, e7, e8, e9, e10] [.drw c sd, LN due] = some (.nx e2 s2) ∧ Inv e2 s2 := by
  obtain ⟨v, c1, s1, h1, b1, _⟩ := drawA_in c sd 10
  obtain ⟨a, c2, s2, h2, b2, _⟩ := drawA_in c1 s1 ((due.length : Int) + 2)
  have b1 := b1 (by omega)
  have b2 := b2 (by omega)
  have n1 : near 1073741824 10 = true := by decide
  have n2 : near 1073741824 ((due.length : Int) + 2) = true := near_of (by omega) (by omega)
  have lp : due.length + 1 ≤ LIM := by unfold LIM; omega
  have ht := tx_len j hj
  have hg := tx_log j hj
  unfold l_law_1
  by_cases c5 : v < 5
  · have hfit : ∀ d ∈ (due ++ [D.str (tx j)]).take 32, D.fitN 59 d = true := fun d hd => by
      rcases List.mem_append.mp (List.mem_of_mem_take hd) with h | h
      · exact hf d h
      · rw [List.mem_singleton.mp h]; exact tx_fit j hj
    have ec : cutL (due ++ [D.str (tx j)]) none (some 32) = (due ++ [D.str (tx j)]).take 32 := cut_upto _ (j := 32) rfl
    have hq := due_eq hfit
    unfold tx at ec hq hfit
    refine ⟨[none, some (.val (.obj 0)), some (.val (.obj 1)), some (.val (.lst ((due ++ [D.str (tx j)]).take 32))), m4, some (.val (.int j)), some (.val (.int v)), some (.val (.int a)), e8, e9, e10], [.drw c2 s2, LN ((due ++ [D.str (tx j)]).take 32)], ?_, ⟨_, _, _, _, _, _, _, _, _, _, rfl, rfl, by simp; omega, hfit⟩⟩
    unfold tx
    simp [r_draw, h1, h2, n1, n2, c5, ht, hg, r_put hl, lp, ec, hq]
  · by_cases c6 : v = 5
    · subst c6
      cases due with
      | nil =>
        have hq := due_eq (due := []) (by simp)
        have ec : cutL ([] : List D) (some 1) none = [] := cut_from _ (j := 1) rfl
        refine ⟨[none, some (.val (.obj 0)), some (.val (.obj 1)), some (.val (.lst [])), m4, some (.val (.int j)), some (.val (.int 5)), some (.val (.int a)), some (.val .non), e9, e10], [.drw c2 s2, LN []], ?_, ⟨_, _, _, _, _, _, _, _, _, _, rfl, rfl, by simp, by simp⟩⟩
        simp at h2 n2
        simp [r_draw, h1, h2, n1, n2, r_deliver, ec, hq]
      | cons y r =>
        have hq := due_eq (due := r) fun d hd => hf d (List.mem_cons_of_mem _ hd)
        have ec : cutL (y :: r) (some 1) none = r := cut_from _ (j := 1) rfl
        have ey := eq_self (d := y) (fit_up (hf y List.mem_cons_self))
        have i0 : ixOf (r.length + 1) 0 = some 0 := ix_at rfl (by omega)
        have p1 : (0 : Int) < (r.length : Int) + 1 := by omega
        refine ⟨[none, some (.val (.obj 0)), some (.val (.obj 1)), some (.val (.lst r)), m4, some (.val (.int j)), some (.val (.int 5)), some (.val (.int a)), some (.val y), e9, e10], [.drw c2 s2, LN r], ?_, ⟨_, _, _, _, _, _, _, _, _, _, rfl, rfl, by simp at hl; omega, fun d hd => hf d (List.mem_cons_of_mem _ hd)⟩⟩
        simp at h2 n2
        simp [r_draw, h1, h2, n1, n2, r_deliver, ec, hq, ey, i0, p1]
    · by_cases c9 : v = 9
      · subst c9
        obtain ⟨u, c3, s3, h3, _, _⟩ := drawA_in c2 s2 6
        have n3 : near 1073741824 6 = true := by decide
        by_cases c0 : u = 0
        · have hq := due_eq (due := []) (by simp)
          refine ⟨[none, some (.val (.obj 0)), some (.val (.obj 1)), some (.val (.lst [])), m4, some (.val (.int j)), some (.val (.int 9)), some (.val (.int a)), e8, e9, e10], [.drw c3 s3, LN []], ?_, ⟨_, _, _, _, _, _, _, _, _, _, rfl, rfl, by simp, by simp⟩⟩
          simp [r_draw, h1, h2, h3, n1, n2, n3, r_clear, c0, hq]
        · have hq := due_eq hf
          refine ⟨[none, some (.val (.obj 0)), some (.val (.obj 1)), some (.val (.lst due)), m4, some (.val (.int j)), some (.val (.int 9)), some (.val (.int a)), e8, e9, e10], [.drw c3 s3, LN due], ?_, ⟨_, _, _, _, _, _, _, _, _, _, rfl, rfl, hl, hf⟩⟩
          simp [r_draw, h1, h2, h3, n1, n2, n3, c0, hq]
      · obtain ⟨i, rfl⟩ : ∃ i : Nat, a = (i : Int) := ⟨a.toNat, by omega⟩
        have hi : i ≤ 100 := by omega
        have er := @r_lose (k + 8) i (.drw c2 s2) due hi
        have ed := @r_double (k + 8) i (.drw c2 s2) due hl
        have eh := @r_hasten (k + 8) i (.drw c2 s2) due hl hi
        by_cases lt : i < due.length
        · have ei : due[i]? = some due[i] := List.getElem?_eq_getElem lt
          have ix : ixOf due.length (i : Int) = some i := ix_at rfl lt
          have k1 : cutL due none (some (i : Int)) = due.take i := cut_upto _ rfl
          have k2 : cutL due (some ((i : Int) + 1)) none = due.drop (i + 1) := cut_from _ (j := i + 1) (by omega)
          have k3 : cutL (due ++ [due[i]]) none (some 32) = (due ++ [due[i]]).take 32 := cut_upto _ (j := 32) rfl
          have fi : D.fitN 59 due[i] = true := hf _ (List.getElem_mem lt)
          have ex : due.eraseIdx i = due.take i ++ due.drop (i + 1) := List.eraseIdx_eq_take_drop_succ ..
          have m0 : min i due.length = i := Nat.min_eq_left (by omega)
          have l1 : (due.take i ++ due.drop (i + 1)).length ≤ 32 := by
            rw [List.length_append, List.length_take, List.length_drop]; omega
          have l2 : i + (due.length - (i + 1)) ≤ LIM := by unfold LIM; omega
          have l3 : 1 + i ≤ LIM := by unfold LIM; omega
          have l4 : i + 1 + (due.length - (i + 1)) ≤ LIM := by unfold LIM; omega
          have l5 : (due[i] :: (due.take i ++ due.drop (i + 1))).length ≤ 32 := by
            rw [List.length_cons, List.length_append, List.length_take, List.length_drop]; omega
          rw [ex] at er eh
          rw [ei] at ed eh
          simp only at ed eh
          have f1 : ∀ d ∈ due.take i ++ due.drop (i + 1), D.fitN 59 d = true := fun d hd => by
            rcases List.mem_append.mp hd with h | h
            · exact hf d (List.mem_of_mem_take h)
            · exact hf d (List.mem_of_mem_drop h)
          have f2 : ∀ d ∈ (due ++ [due[i]]).take 32, D.fitN 59 d = true := fun d hd => by
            rcases List.mem_append.mp (List.mem_of_mem_take hd) with h | h
            · exact hf d h
            · rw [List.mem_singleton.mp h]; exact fi
          have f3 : ∀ d ∈ due[i] :: (due.take i ++ due.drop (i + 1)), D.fitN 59 d = true := fun d hd => by
            rcases List.mem_cons.mp hd with h | h
            · rw [h]; exact fi
            · exact f1 d h
          have q1 := due_eq f1
          have q2 := due_eq f2
          have q3 := due_eq f3
          have hv : v = 6 ∨ v = 7 ∨ v = 8 := by omega
          rcases hv with rfl | rfl | rfl
          · have x0 : ixOf 3 0 = some 0 := by decide
            refine ⟨[none, some (.val (.obj 0)), some (.val (.obj 1)), some (.val (.lst (due.take i ++ due.drop (i + 1)))), m4, some (.val (.int j)), some (.val (.int 6)), some (.val (.int i)), e8, some (.val (.bl true)), some (.val (.bl true))], [.drw c2 s2, LN (due.take i ++ due.drop (i + 1))], ?_, ⟨_, _, _, _, _, _, _, _, _, _, rfl, rfl, l1, f1⟩⟩
            simp [r_draw, h1, h2, n1, n2, er, lt, ix, k1, k2, k3, m0, l2, l3, l4, lp, q1, x0]
          · have x0 : ixOf 3 1 = some 1 := by decide
            refine ⟨[none, some (.val (.obj 0)), some (.val (.obj 1)), some (.val (.lst ((due ++ [due[i]]).take 32))), m4, some (.val (.int j)), some (.val (.int 7)), some (.val (.int i)), e8, some (.val (.bl true)), some (.val (.bl true))], [.drw c2 s2, LN ((due ++ [due[i]]).take 32)], ?_, ⟨_, _, _, _, _, _, _, _, _, _, rfl, rfl, by simp; omega, f2⟩⟩
            simp [r_draw, h1, h2, n1, n2, ed, lt, ix, k1, k2, k3, m0, l2, l3, l4, lp, q2, x0]
          · have x0 : ixOf 3 2 = some 2 := by decide
            refine ⟨[none, some (.val (.obj 0)), some (.val (.obj 1)), some (.val (.lst (due[i] :: (due.take i ++ due.drop (i + 1))))), m4, some (.val (.int j)), some (.val (.int 8)), some (.val (.int i)), e8, some (.val (.bl true)), some (.val (.bl true))], [.drw c2 s2, LN (due[i] :: (due.take i ++ due.drop (i + 1)))], ?_, ⟨_, _, _, _, _, _, _, _, _, _, rfl, rfl, l5, f3⟩⟩
            simp [r_draw, h1, h2, n1, n2, eh, lt, ix, k1, k2, k3, m0, l2, l3, l4, lp, q3, x0]
        · have ei : due[i]? = none := List.getElem?_eq_none (by omega)
          have ex : due.eraseIdx i = due := List.eraseIdx_of_length_le (by omega)
          rw [ex] at er
          rw [ei] at ed eh
          simp only at ed eh
          have q0 := due_eq hf
          have hv : v = 6 ∨ v = 7 ∨ v = 8 := by omega
          refine ⟨[none, some (.val (.obj 0)), some (.val (.obj 1)), some (.val (.lst due)), m4, some (.val (.int j)), some (.val (.int v)), some (.val (.int i)), e8, some (.val (.bl false)), some (.val (.bl false))], [.drw c2 s2, LN due], ?_, ⟨_, _, _, _, _, _, _, _, _, _, rfl, rfl, hl, hf⟩⟩
          rcases hv with rfl | rfl | rfl
          · simp [r_draw, h1, h2, n1, n2, er, lt, q0]
          · simp [r_draw, h1, h2, n1, n2, ed, lt, q0]
          · simp [r_draw, h1, h2, n1, n2, eh, lt, q0]
theorem keeps : Keeps := fun cells seed => by
  show ∃ s, b_law (rn (30 + 10)) [none, some (.val (.obj 0)), none, none, none, none, none, none, none, none, none] [.drw cells seed] = some (.rt (.bl true) s)
  obtain ⟨v, c1, s1, h1, b1, _⟩ := drawA_in cells seed 61
  have b1 := b1 (by omega)
  have n1 : near 1073741824 61 = true := by decide
  have ok : okR v = true := okR_small (by omega) (by omega)
  obtain ⟨e', s', h, _⟩ := forL_inv (t := .n 5) (f := l_law_1 (rn (30 + 10))) (fun _ env s => Inv env s) (rngIts 0 v) 0 [none, some (.val (.obj 0)), some (.val (.obj 1)), some (.val (.lst [])), some (.val (.int v)), none, none, none, none, none, none] [.drw c1 s1, LN []]
    ⟨_, _, _, _, _, _, _, _, _, _, rfl, rfl, by simp, by simp⟩ fun j d env s hd ⟨due, c, sd, m4, e5, e6, e7, e8, e9, e10, he, hs, hl, hf⟩ => by
      subst he; subst hs
      unfold rngIts at hd
      rw [List.getElem?_map] at hd
      simp only [Option.map_eq_some_iff] at hd
      obtain ⟨q, hq, rfl⟩ := hd
      obtain ⟨g1, g2⟩ := List.getElem?_eq_some_iff.mp hq
      simp only [List.length_range] at g1
      simp only [List.getElem_range] at g2
      subst g2
      obtain ⟨e2, s2, w1, w2⟩ := step (k := 30) (j := j) (c := c) (sd := sd) (m4 := m4) (e6 := e6) (e7 := e7) (e8 := e8) (e9 := e9) (e10 := e10) (by omega) hl hf
      exact ⟨_, e2, s2, rfl, .inl (by simpa using w1), w2⟩
  have h : forL (.n 5) (l_law_1 (rn 40)) (rngIts 0 v) [none, some (.val (.obj 0)), some (.val (.obj 1)), some (.val (.lst [])), some (.val (.int v)), none, none, none, none, none, none] [.drw c1 s1, LN []] = some (.nx e' s') := h
  have hi := @r_init 39 (.drw cells seed)
  refine ⟨s', ?_⟩
  unfold b_law
  simp [r_draw, h1, n1, ok, h, hi]
end Law
open PySem PySem.W PyProof.Rows
set_option maxRecDepth 100000 in
set_option maxHeartbeats 0 in
theorem PySem.Challenge.cw_hangbridge_k03_lanes_of_frames_holds : PySem.Challenge.rw_hangbridge_k03_lanes_of_frames.Holds := by
  w_on; o_law; k_head; (case hw => w_witness2)
  k_fill
  refine Law.walk (l := PySem.Challenge.rw_hangbridge_k03_lanes_of_frames) rfl rfl (fun w h Y => PySem.W.kIn_of Y) ?F
  case F =>
    intro w mg fa h KX G hmg
    refine' Law.all_mk Law.keeps KX G hmg ?n_abs ?n_bool ?n_int ?n_isinstance ?n_len ?n_range ?n_str ?m_MOST_FRAMES ?aC_Lane ?pg_Lane ?hd_Lane ?po_Lane ?sa_Lane ?mk_Lane ?kc_Lane ?na_Lane_frames ?a0 ?i0 ?l0 ?c0 ?k0 ?a1 ?i1 ?l1 ?c1 ?k1 ?a2 ?i2 ?l2 ?c2 ?k2 ?a3 ?i3 ?l3 ?c3 ?k3 ?a4 ?i4 ?l4 ?c4 ?k4 ?a5 ?i5 ?l5 ?c5 ?k5 ?a6 ?i6 ?l6 ?c6 ?k6 ?a7 ?i7 ?l7 ?c7 ?k7 ?a8 ?l8 ?c8 ?k8 ?a9 ?l9 ?c9 ?k9 ?a10 ?l10 ?c10 ?k10
    (case n_abs => k_is)
    (case n_bool => k_is)
    (case n_int => k_is)
    (case n_isinstance => k_is)
    (case n_len => k_is)
    (case n_range => k_is)
    (case n_str => k_is)
    (case m_MOST_FRAMES => k_is)
    (case aC_Lane => k_is)
    (case pg_Lane => k_is)
    (case hd_Lane => k_is)
    (case po_Lane => k_is)
    (case sa_Lane => k_is)
    (case mk_Lane => k_is)
    (case kc_Lane => k_is)
    (case na_Lane_frames => k_is)
    (case a0 => k_is)
    (case i0 => k_is)
    (case l0 => k_is)
    (case c0 => k_is)
    (case k0 => k_is)
    (case a1 => k_is)
    (case i1 => k_is)
    (case l1 => k_is)
    (case c1 => k_is)
    (case k1 => k_is)
    (case a2 => k_is)
    (case i2 => k_is)
    (case l2 => k_is)
    (case c2 => k_is)
    (case k2 => k_is)
    (case a3 => k_is)
    (case i3 => k_is)
    (case l3 => k_is)
    (case c3 => k_is)
    (case k3 => k_is)
    (case a4 => k_is)
    (case i4 => k_is)
    (case l4 => k_is)
    (case c4 => k_is)
    (case k4 => k_is)
    (case a5 => k_is)
    (case i5 => k_is)
    (case l5 => k_is)
    (case c5 => k_is)
    (case k5 => k_is)
    (case a6 => k_is)
    (case i6 => k_is)
    (case l6 => k_is)
    (case c6 => k_is)
    (case k6 => k_is)
    (case a7 => k_is)
    (case i7 => k_is)
    (case l7 => k_is)
    (case c7 => k_is)
    (case k7 => k_is)
    (case a8 => k_is)
    (case l8 => k_is)
    (case c8 => k_is)
    (case k8 => k_is)
    (case a9 => k_is)
    (case l9 => k_is)
    (case c9 => k_is)
    (case k9 => k_is)
    (case a10 => k_is)
    (case l10 => k_is)
    (case c10 => k_is)
    (case k10 => k_is)
#print axioms PySem.Challenge.cw_hangbridge_k03_lanes_of_frames_holds
