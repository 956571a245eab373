import PyProof.Rows.All
import Wide.All
import OpenK.AllK
import Wide.FinOn
import HandS.ForMost
import HandS.Exc
import HandS.WordsExc
import HandS.CallSlots
import HandS.TupAny
import HandS.TupMul
import HandS.IsInst
import HandS.Flow
import HandS.Wide
import HandS.ExcOwn
import HandS.Style
import PySem.Challenge.RW_downtogates_k01_whole_words_and_bits
set_option Elab.async false
set_option linter.all false
set_option maxRecDepth 100000
set_option maxHeartbeats 8000000
/-! MP: pure meanings of Python expressions and statements, sound for the judgements of HandS. -/
namespace MP
open PySem PySem.Spec PyProof.Rows L2

/-! ### values, stores -/
/-- values as trees; a list that is never changed any more is a tree too; `ref` is a changeable object, at a level of the store -/
inductive D where
  | non | bl (b : Bool) | int (i : Int) | str (x : Str) | ty (n : String)
  | tup (xs : List D) | lst (xs : List D) | rol (xs : List D) | ref (l i : Nat)
deriving Inhabited

/-- changeable objects -/
inductive O where
  | lst (xs : List D)
  | dead

/-- where the changeable objects stand; what is private to a loop that fills a new list -/
structure Phi where
  r : List (List Addr)
  p : List Addr
abbrev Sto := List (List O)

section
variable {α : Type}
/-- levels are counted from the bottom, the top level stands first -/
def look : List (List α) → Nat → Nat → Option α
  | [], _, _ => none
  | r :: rs, l, i => if l = rs.length then r[i]? else look rs l i
def put : List (List α) → Nat → Nat → α → List (List α)
  | [], _, _, _ => []
  | r :: rs, l, i, o => if l = rs.length then r.set i o :: rs else r :: put rs l i o
theorem look_ge : ∀ {rs : List (List α)} {l i : Nat}, rs.length ≤ l → look rs l i = none
  | [], _, _, _ => rfl
  | r :: rs, l, i, h => by
    simp only [List.length_cons] at h
    rw [look, if_neg (by omega)]
    exact look_ge (by omega)
theorem look_lt {rs : List (List α)} {l i : Nat} {a : α} (h : look rs l i = some a) : l < rs.length := by
  apply Classical.byContradiction
  intro n
  rw [look_ge (by omega)] at h
  cases h
@[simp] theorem look_top (r : List α) (rs : List (List α)) (i : Nat) : look (r :: rs) rs.length i = r[i]? := by
  rw [look, if_pos rfl]
theorem look_low (r : List α) {rs : List (List α)} {l : Nat} (i : Nat) (h : l < rs.length) : look (r :: rs) l i = look rs l i := by
  rw [look, if_neg (by omega)]
theorem look_push (r : List α) {rs : List (List α)} {l i : Nat} {a : α} (h : look rs l i = some a) : look (r :: rs) l i = some a := by
  rw [look_low r i (look_lt h)]; exact h
theorem put_length : ∀ (rs : List (List α)) (l i : Nat) (o : α), (put rs l i o).length = rs.length
  | [], _, _, _ => rfl
  | r :: rs, l, i, o => by
    rw [put]
    split
    · rfl
    · simp only [List.length_cons, put_length rs l i o]
theorem look_put_same : ∀ {rs : List (List α)} {l i : Nat} {a : α} (o : α), look rs l i = some a → look (put rs l i o) l i = some o
  | [], _, _, _, _, h => by cases h
  | r :: rs, l, i, a, o, h => by
    rw [look] at h
    rw [put]
    split
    · rename_i e
      rw [if_pos e] at h
      rw [look, if_pos e]
      have := (List.getElem?_eq_some_iff.mp h).1
      simp [this]
    · rename_i e
      rw [if_neg e] at h
      rw [look, put_length, if_neg e]
      exact look_put_same o h
theorem look_put_ne : ∀ {rs : List (List α)} {l i l' i' : Nat} (o : α), ¬ (l' = l ∧ i' = i) → look (put rs l i o) l' i' = look rs l' i'
  | [], _, _, _, _, _, _ => rfl
  | r :: rs, l, i, l', i', o, h => by
    rw [put]
    split
    · rename_i e
      rw [look, look]
      split
      · rename_i e'
        rw [List.getElem?_set_ne]
        intro z
        exact h ⟨by omega, z.symm⟩
      · rfl
    · rename_i e
      rw [look, look, put_length]
      split
      · rfl
      · exact look_put_ne o h
theorem put_shape : ∀ (rs : List (List α)) (l i : Nat) (o : α), (put rs l i o).map List.length = rs.map List.length
  | [], _, _, _ => rfl
  | r :: rs, l, i, o => by
    rw [put]
    split
    · simp
    · simp only [List.map_cons, put_shape rs l i o]
theorem look_of_shape {β : Type} : ∀ {rs : List (List α)} {qs : List (List β)} {l i : Nat} {a : α}, rs.map List.length = qs.map List.length → look rs l i = some a → ∃ b, look qs l i = some b
  | [], _, _, _, _, _, h => by cases h
  | r :: rs, [], _, _, _, e, _ => by simp at e
  | r :: rs, q :: qs, l, i, a, e, h => by
    simp only [List.map_cons, List.cons.injEq] at e
    have e2 : rs.length = qs.length := by have := congrArg List.length e.2; simpa using this
    rw [look] at h ⊢
    rw [← e2]
    split
    · rename_i z
      rw [if_pos z] at h
      have h1 := (List.getElem?_eq_some_iff.mp h).1
      rw [e.1] at h1
      exact ⟨q[i], by simp [h1]⟩
    · rename_i z
      rw [if_neg z] at h
      exact look_of_shape e.2 h
end

mutual
/-- all references within lie at the level or below -/
def D.le (l : Nat) : D → Bool
  | .ref k _ => decide (k ≤ l)
  | .tup xs => D.les l xs
  | .lst xs => D.les l xs
  | .rol xs => D.les l xs
  | _ => true
def D.les (l : Nat) : List D → Bool
  | [] => true
  | x :: xs => D.le l x && D.les l xs
end
def O.le (l : Nat) : O → Bool
  | .lst xs => D.les l xs
  | .dead => true

/-! ### the relation between a tree and what stands in the heap -/
def Away (φ : Phi) (a : Addr) : Prop := (∀ l i, look φ.r l i ≠ some a) ∧ a ∉ φ.p
def FT (K : PySem.W.Frag) (φ : Phi) (H : Hp) (a : Addr) (vs : List V) : Prop := (Rd H a (.tup vs) ∧ Away φ a) ∨ SqT K (fun _ => none) a vs
def FR (K : PySem.W.Frag) (φ : Phi) (H : Hp) (a : Addr) (vs : List V) : Prop := (Rd H a (.lst vs) ∧ Away φ a) ∨ SqL K (fun _ => none) a vs
theorem sqT_none {K : PySem.W.Frag} {H : Hp} {a : Addr} {vs : List V} (h : SqT K (fun _ => none) a vs) : SqT K H a vs := by
  rcases h with (h | ⟨o, h⟩) | h
  · cases h
  · cases h
  · exact .inr h
theorem sqL_none {K : PySem.W.Frag} {H : Hp} {a : Addr} {vs : List V} (h : SqL K (fun _ => none) a vs) : SqL K H a vs := by
  rcases h with (h | ⟨o, h⟩) | h
  · cases h
  · cases h
  · exact .inr h
theorem FT.sq {K : PySem.W.Frag} {φ : Phi} {H : Hp} {a : Addr} {vs : List V} (h : FT K φ H a vs) : SqT K H a vs := by
  rcases h with ⟨h, _⟩ | h
  · exact .inl h
  · exact sqT_none h
theorem FR.sq {K : PySem.W.Frag} {φ : Phi} {H : Hp} {a : Addr} {vs : List V} (h : FR K φ H a vs) : SqL K H a vs := by
  rcases h with ⟨h, _⟩ | h
  · exact .inl h
  · exact sqL_none h

section
variable (K : PySem.W.Frag) (φ : Phi) (H : Hp)
mutual
inductive Rel : D → V → Prop
  | non : Rel .non .non
  | bl (b : Bool) : Rel (.bl b) (.bl b)
  | int (i : Int) : Rel (.int i) (.int i)
  | str (x : Str) : Rel (.str x) (.str x)
  | ty (n : String) : Rel (.ty n) (.ty n)
  | tup {a : Addr} {vs : List V} {ds : List D} : vs.length ≤ sizeLine → FT K φ H a vs → RelL ds vs → Rel (.tup ds) (.ref a)
  | lst {a : Addr} {vs : List V} {ds : List D} : vs.length ≤ sizeLine → H a = some (.lst vs) → Away φ a → RelL ds vs → Rel (.lst ds) (.ref a)
  | rol {a : Addr} {vs : List V} {ds : List D} : vs.length ≤ sizeLine → FR K φ H a vs → RelL ds vs → Rel (.rol ds) (.ref a)
  | ref {l i : Nat} {a : Addr} : look φ.r l i = some a → Rel (.ref l i) (.ref a)
inductive RelL : List D → List V → Prop
  | nil : RelL [] []
  | cons {d : D} {v : V} {ds : List D} {vs : List V} : Rel d v → RelL ds vs → RelL (d :: ds) (v :: vs)
end
end

structure Le (φ : Phi) (H : Hp) (φ' : Phi) (H' : Hp) : Prop where
  dep : φ'.r.length = φ.r.length
  grow : ∀ l i a, look φ.r l i = some a → look φ'.r l i = some a
  stay : ∀ a o, H a = some o → Away φ a → H' a = some o ∧ Away φ' a
  prv : ∀ a, a ∈ φ.p → a ∈ φ'.p
  pst : ∀ a o, a ∈ φ.p → H a = some o → H' a = some o
theorem Le.refl (φ : Phi) (H : Hp) : Le φ H φ H := ⟨rfl, fun _ _ _ h => h, fun _ _ h w => ⟨h, w⟩, fun _ h => h, fun _ _ _ h => h⟩
theorem Le.trans {φ φ1 φ2 : Phi} {H H1 H2 : Hp} (a : Le φ H φ1 H1) (b : Le φ1 H1 φ2 H2) : Le φ H φ2 H2 :=
  ⟨b.dep.trans a.dep, fun l i x h => b.grow l i x (a.grow l i x h), fun x o h w => let ⟨h1, w1⟩ := a.stay x o h w; b.stay x o h1 w1, fun x h => b.prv x (a.prv x h), fun x o h e => b.pst x o (a.prv x h) (a.pst x o h e)⟩
theorem Le.rd {φ φ' : Phi} {H H' : Hp} (e : Le φ H φ' H') {a : Addr} {u : HO} (h : Rd H a u) (w : Away φ a) : Rd H' a u ∧ Away φ' a := by
  rcases h with h | ⟨o, h⟩
  · obtain ⟨h1, w1⟩ := e.stay a _ h w
    exact ⟨.inl h1, w1⟩
  · obtain ⟨h1, w1⟩ := e.stay a _ h w
    exact ⟨.inr ⟨o, h1⟩, w1⟩

section
variable {K : PySem.W.Frag} {φ φ' : Phi} {H H' : Hp}
mutual
theorem Rel.mono (e : Le φ H φ' H') : ∀ {d : D} {v : V}, Rel K φ H d v → Rel K φ' H' d v
  | _, _, .non => .non
  | _, _, .bl b => .bl b
  | _, _, .int i => .int i
  | _, _, .str x => .str x
  | _, _, .ty n => .ty n
  | _, _, .tup z f r => .tup z (by
      rcases f with ⟨f, w⟩ | f
      · exact .inl (e.rd f w)
      · exact .inr f) (RelL.mono e r)
  | _, _, .lst z f w r => .lst z (e.stay _ _ f w).1 (e.stay _ _ f w).2 (RelL.mono e r)
  | _, _, .rol z f r => .rol z (by
      rcases f with ⟨f, w⟩ | f
      · exact .inl (e.rd f w)
      · exact .inr f) (RelL.mono e r)
  | _, _, .ref h => .ref (e.grow _ _ _ h)
theorem RelL.mono (e : Le φ H φ' H') : ∀ {ds : List D} {vs : List V}, RelL K φ H ds vs → RelL K φ' H' ds vs
  | _, _, .nil => .nil
  | _, _, .cons h r => .cons (Rel.mono e h) (RelL.mono e r)
end
theorem RelL.length : ∀ {ds : List D} {vs : List V}, RelL K φ H ds vs → ds.length = vs.length
  | _, _, .nil => rfl
  | _, _, .cons _ r => by simp [RelL.length r]
theorem RelL.get : ∀ {ds : List D} {vs : List V} {i : Nat} {d : D}, RelL K φ H ds vs → ds[i]? = some d → ∃ v, vs[i]? = some v ∧ Rel K φ H d v
  | _, _, _, _, .nil, e => by simp at e
  | _, _, 0, _, .cons r _, e => by simp at e; subst e; exact ⟨_, rfl, r⟩
  | _, _, i + 1, d, .cons _ t, e => by
    obtain ⟨u, h1, h2⟩ := RelL.get (i := i) (d := d) t (by simpa using e)
    exact ⟨u, by simpa using h1, h2⟩
theorem RelL.get' : ∀ {ds : List D} {vs : List V} {i : Nat} {v : V}, RelL K φ H ds vs → vs[i]? = some v → ∃ d, ds[i]? = some d ∧ Rel K φ H d v
  | _, _, _, _, .nil, e => by simp at e
  | _, _, 0, _, .cons r _, e => by simp at e; subst e; exact ⟨_, rfl, r⟩
  | _, _, i + 1, v, .cons _ t, e => by
    obtain ⟨u, h1, h2⟩ := RelL.get' (i := i) (v := v) t (by simpa using e)
    exact ⟨u, by simpa using h1, h2⟩
theorem RelL.append : ∀ {ds es : List D} {vs ws : List V}, RelL K φ H ds vs → RelL K φ H es ws → RelL K φ H (ds ++ es) (vs ++ ws)
  | _, _, _, _, .nil, s => s
  | _, _, _, _, .cons r t, s => .cons r (RelL.append t s)
theorem RelL.take : ∀ {ds : List D} {vs : List V} (n : Nat), RelL K φ H ds vs → RelL K φ H (ds.take n) (vs.take n)
  | _, _, 0, _ => by simp; exact .nil
  | _, _, n + 1, .nil => .nil
  | _, _, n + 1, .cons r t => .cons r (RelL.take n t)
theorem RelL.drop : ∀ {ds : List D} {vs : List V} (n : Nat), RelL K φ H ds vs → RelL K φ H (ds.drop n) (vs.drop n)
  | _, _, 0, r => r
  | _, _, n + 1, .nil => .nil
  | _, _, n + 1, .cons _ t => RelL.drop n t
theorem RelL.set {d : D} {v : V} (q : Rel K φ H d v) : ∀ {ds : List D} {vs : List V} (n : Nat), RelL K φ H ds vs → RelL K φ H (ds.set n d) (vs.set n v)
  | _, _, _, .nil => .nil
  | _, _, 0, .cons r t => .cons q t
  | _, _, n + 1, .cons r t => .cons r (RelL.set q n t)
theorem RelL.reps {ds : List D} {vs : List V} (h : RelL K φ H ds vs) : ∀ k : Nat, RelL K φ H (List.replicate k ds).flatten (List.replicate k vs).flatten
  | 0 => .nil
  | k + 1 => by
    rw [List.replicate_succ, List.replicate_succ, List.flatten_cons, List.flatten_cons]
    exact h.append (RelL.reps h k)
theorem RelL.ints : ∀ (ns : List Int), RelL K φ H (ns.map D.int) (ns.map V.int)
  | [] => .nil
  | n :: ns => .cons (.int n) (RelL.ints ns)
theorem RelL.ints_inv : ∀ {ns : List Int} {vs : List V}, RelL K φ H (ns.map D.int) vs → vs = ns.map V.int
  | [], _, .nil => rfl
  | n :: ns, _, .cons h r => by
    cases h
    rw [RelL.ints_inv r]
    rfl
theorem RelL.bls_inv : ∀ {ns : List Bool} {vs : List V}, RelL K φ H (ns.map D.bl) vs → vs = ns.map V.bl
  | [], _, .nil => rfl
  | n :: ns, _, .cons h r => by
    cases h
    rw [RelL.bls_inv r]
    rfl
end

/-- an object of the store and its address -/
def RO (K : PySem.W.Frag) (φ : Phi) (H : Hp) : O → Addr → Prop
  | .lst ds, a => ∃ vs, H a = some (.lst vs) ∧ vs.length ≤ sizeLine ∧ RelL K φ H ds vs
  | .dead, _ => True
structure RS (K : PySem.W.Frag) (φ : Phi) (H : Hp) (S : Sto) : Prop where
  shape : φ.r.map List.length = S.map List.length
  obj : ∀ l i o a, look S l i = some o → look φ.r l i = some a → RO K φ H o a
  inj : ∀ l i l' i' a, look φ.r l i = some a → look φ.r l' i' = some a → l = l' ∧ i = i'
  lev : ∀ l i o, look S l i = some o → o.le l = true
  trk : ∀ l i a, look φ.r l i = some a → H a ≠ none
  ptrk : ∀ a, a ∈ φ.p → H a ≠ none
  dis : ∀ l i a, look φ.r l i = some a → a ∉ φ.p
section
variable {K : PySem.W.Frag} {φ φ' : Phi} {H H' : Hp} {S : Sto}
theorem RS.dep (h : RS K φ H S) : φ.r.length = S.length := by
  have := congrArg List.length h.shape
  simpa using this
theorem RS.fresh (h : RS K φ H S) {p : Addr} (hp : H p = none) : Away φ p := ⟨fun l i e => h.trk l i p e hp, fun e => h.ptrk p e hp⟩
theorem RS.at (h : RS K φ H S) {l i : Nat} {o : O} (e : look S l i = some o) : ∃ a, look φ.r l i = some a ∧ RO K φ H o a := by
  obtain ⟨a, ha⟩ := look_of_shape h.shape.symm e
  exact ⟨a, ha, h.obj l i o a e ha⟩
/-- a new thing that is never changed -/
theorem Le.laid {p : Addr} {o : HO} (h : RS K φ H S) (hp : H p = none) : Le φ H φ (upd H p o) :=
  ⟨rfl, fun _ _ _ e => e, fun a u e w => ⟨by rw [upd_ne (ne_of_none e hp)]; exact e, w⟩, fun _ e => e, fun a u _ e => by rw [upd_ne (ne_of_none e hp)]; exact e⟩
theorem Le.fresh {p : Addr} {o : HO} (hp : H p = none) : Le φ H φ (upd H p o) :=
  ⟨rfl, fun _ _ _ e => e, fun a u e w => ⟨by rw [upd_ne (ne_of_none e hp)]; exact e, w⟩, fun _ e => e, fun a u _ e => by rw [upd_ne (ne_of_none e hp)]; exact e⟩
theorem upd_some {H : Hp} {p a : Addr} {o u : HO} (hp : H p = none) (h : H a = some u) : upd H p o a = some u := by
  rw [upd_ne (ne_of_none h hp)]; exact h
mutual
theorem Rel.laid {p : Addr} {o : HO} (hp : H p = none) : ∀ {d : D} {v : V}, Rel K φ H d v → Rel K φ (upd H p o) d v := fun h => h.mono (Le.fresh hp)
theorem RelL.laid {p : Addr} {o : HO} (hp : H p = none) : ∀ {ds : List D} {vs : List V}, RelL K φ H ds vs → RelL K φ (upd H p o) ds vs := fun h => h.mono (Le.fresh hp)
end
theorem RO.laid {p : Addr} {u : HO} (hp : H p = none) : ∀ {o : O} {a : Addr}, RO K φ H o a → RO K φ (upd H p u) o a
  | .lst ds, a, ⟨vs, h, z, r⟩ => ⟨vs, upd_some hp h, z, r.laid hp⟩
  | .dead, _, _ => trivial
theorem RS.laid {p : Addr} {u : HO} (h : RS K φ H S) (hp : H p = none) : RS K φ (upd H p u) S :=
  ⟨h.shape, fun l i o a e1 e2 => (h.obj l i o a e1 e2).laid hp, h.inj, h.lev, fun l i a e => by
    have := h.trk l i a e
    cases q : H a with
    | none => exact absurd q this
    | some o => rw [upd_some hp q]; simp, fun a e => by
    have := h.ptrk a e
    cases q : H a with
    | none => exact absurd q this
    | some o => rw [upd_some hp q]; simp, h.dis⟩
end

/-! ### what an expression means -/
structure Exn where
  c : Str
  fs : List (Str × D)
inductive R (α : Type) where
  | ok (a : α) (S : Sto)
  | err (x : Exn) (S : Sto)
  | bad
def R.bind {α β : Type} (r : R α) (f : α → Sto → R β) : R β := match r with
  | .ok a S => f a S
  | .err x S => .err x S
  | .bad => .bad
@[simp] theorem R.bind_ok {α β : Type} (a : α) (S : Sto) (f : α → Sto → R β) : (R.ok a S).bind f = f a S := (rfl)
@[simp] theorem R.bind_err {α β : Type} (x : Exn) (S : Sto) (f : α → Sto → R β) : (R.err x S : R α).bind f = .err x S := (rfl)
@[simp] theorem R.bind_bad {α β : Type} (f : α → Sto → R β) : (R.bad : R α).bind f = .bad := (rfl)
abbrev Ro := List (Option D)
abbrev C := Ro → Sto → R D
abbrev CT := Ro → Sto → R Bool
abbrev CA := Ro → Sto → R (List D)

def RE (K : PySem.W.Frag) (φ : Phi) (H : Hp) (ρ : Ro) (σ : L2.St) : Prop := ρ.length = σ.length ∧ ∀ (i : Nat) (d : D), ρ[i]? = some (some d) → ∃ v, σ[i]? = some (some v) ∧ Rel K φ H d v
theorem RE.mono {K : PySem.W.Frag} {φ φ' : Phi} {H H' : Hp} {ρ : Ro} {σ : L2.St} (h : RE K φ H ρ σ) (e : Le φ H φ' H') : RE K φ' H' ρ σ :=
  ⟨h.1, fun i d q => let ⟨v, a, b⟩ := h.2 i d q; ⟨v, a, b.mono e⟩⟩
theorem RE.set {K : PySem.W.Frag} {φ : Phi} {H : Hp} {ρ : Ro} {σ : L2.St} {d : D} {v : V} (h : RE K φ H ρ σ) (r : Rel K φ H d v) (i : Nat) : RE K φ H (ρ.set i (some d)) (σ.set i (some v)) := by
  refine ⟨by simpa using h.1, fun j d' q => ?_⟩
  by_cases e : i = j
  · subst e
    have hl : i < ρ.length := by
      have := (List.getElem?_eq_some_iff.mp q).1
      simpa using this
    rw [List.getElem?_set_self hl] at q
    cases q
    exact ⟨v, List.getElem?_set_self (by rw [← h.1]; exact hl), r⟩
  · rw [List.getElem?_set_ne e] at q
    rw [List.getElem?_set_ne e]
    exact h.2 j d' q
def RF (K : PySem.W.Frag) (φ : Phi) (H : Hp) (fs : List (Str × D)) (vs : List (Str × V)) : Prop := fs.map (·.1) = vs.map (·.1) ∧ RelL K φ H (fs.map (·.2)) (vs.map (·.2))
/-- an exception of an own class, its own dict -/
def RX (K : PySem.W.Frag) (mg : Str → Option Value) (φ : Phi) (H : Hp) (x : Exn) (cls : Value) (d : Option Addr) : Prop :=
  ∃ a dx vs, cls = .ref a ∧ mg x.c = some (.ref a) ∧ d = some dx ∧ H dx = some (.xd vs) ∧ Away φ dx ∧ RF K φ H x.fs vs

section
variable (K : PySem.W.Frag) (mg : Str → Option Value)
/-- how a result meets a wish; `rel` relates the value -/
def Ok {α β : Type} (rel : Phi → Hp → α → β → Prop) (φ : Phi) (H : Hp) (E : Value → Option Addr → Hp → Prop) (Q : β → Hp → Prop) : R α → Prop
  | .ok d S' => ∀ φ' H' v, Le φ H φ' H' → RS K φ' H' S' → rel φ' H' d v → Q v H'
  | .err x S' => ∀ φ' H' cls dx, Le φ H φ' H' → RS K φ' H' S' → RX K mg φ' H' x cls dx → E cls dx H'
  | .bad => False
end
def eqB (φ : Phi) (H : Hp) (b c : Bool) : Prop := b = c
section
variable {K : PySem.W.Frag} {mg : Str → Option Value} {α β α' β' : Type} {rel : Phi → Hp → α → β → Prop} {rel' : Phi → Hp → α' → β' → Prop} {φ φ' : Phi} {H H' : Hp} {E : Value → Option Addr → Hp → Prop} {Q : β → Hp → Prop} {Q' : β' → Hp → Prop}
theorem Ok.later {r : R α} (e : Le φ H φ' H') (h : Ok K mg rel φ H E Q r) : Ok K mg rel φ' H' E Q r := by
  cases r with
  | ok d S => exact fun φ2 H2 v l s q => h φ2 H2 v (e.trans l) s q
  | err x S => exact fun φ2 H2 c d l s q => h φ2 H2 c d (e.trans l) s q
  | bad => exact h
/-- the first part, then the rest -/
theorem Ok.step {r : R α} {f : α → Sto → R α'} (h : Ok K mg rel' φ H E Q' (r.bind f)) (k : ∀ d S φ1 H1 v, r = .ok d S → Le φ H φ1 H1 → RS K φ1 H1 S → rel φ1 H1 d v → Ok K mg rel' φ1 H1 E Q' (f d S) → Q v H1) : Ok K mg rel φ H E Q r := by
  cases r with
  | ok d S => exact fun φ1 H1 v l s q => k d S φ1 H1 v rfl l s q (Ok.later l h)
  | err x S => exact h
  | bad => exact h
end

section
variable {X : Cx} (W : WX)
abbrev Cx.K' (X : Cx) := X.K
def rdE (X : Cx) (W : WX) (c : C) : TE := fun σ H Q => ∃ ρ φ S, RE X.K φ H ρ σ ∧ RS X.K φ H S ∧ Ok X.K X.mg (Rel X.K) φ H (fun cls d H' => W cls d σ H') Q (c ρ S)
def rdT (X : Cx) (W : WX) (c : CT) : TT := fun σ H Q => ∃ ρ φ S, RE X.K φ H ρ σ ∧ RS X.K φ H S ∧ Ok X.K X.mg eqB φ H (fun cls d H' => W cls d σ H') Q (c ρ S)
def rdA (X : Cx) (W : WX) (c : CA) : TA := fun σ H Q => ∃ ρ φ S, RE X.K φ H ρ σ ∧ RS X.K φ H S ∧ Ok X.K X.mg (RelL X.K) φ H (fun cls d H' => W cls d σ H') Q (c ρ S)
end
structure ME (X : Cx) (W : WX) (e : Expr) (c : C) : Prop where
  pe : PE X e (rdE X W c)
structure MT (X : Cx) (W : WX) (e : Expr) (c : CT) : Prop where
  pt : PT X e (rdT X W c)
structure MW (X : Cx) (W : WX) (e : Expr) (c : CT) : Prop where
  pw : PW X e (rdT X W c)
structure MA (X : Cx) (W : WX) (es : List Expr) (c : CA) : Prop where
  pa : PA X es (rdA X W c)
  len : ∀ ρ S ds S', c ρ S = .ok ds S' → ds.length = es.length
section
variable {X : Cx} {W : WX} {e : Expr} {es : List Expr}
theorem _root_.L2.PE.imp {t u : TE} (h : PE X e t) (k : ∀ σ H Q, u σ H Q → t σ H Q) : PE X e u := ⟨fun pins s σ H Q I z => h.run pins s σ H Q I (k σ H Q z)⟩
theorem _root_.L2.PT.imp {t u : TT} (h : PT X e t) (k : ∀ σ H Q, u σ H Q → t σ H Q) : PT X e u := ⟨fun pins s σ H Q I z => h.run pins s σ H Q I (k σ H Q z)⟩
theorem _root_.L2.PW.imp {t u : TT} (h : PW X e t) (k : ∀ σ H Q, u σ H Q → t σ H Q) : PW X e u := ⟨fun wh pins s σ H Q I z => h.run wh pins s σ H Q I (k σ H Q z)⟩
theorem _root_.L2.PA.imp {t u : TA} (h : PA X es t) (k : ∀ σ H Q, u σ H Q → t σ H Q) : PA X es u := ⟨fun pos pins s σ H Q I z => h.run pos pins s σ H Q I (k σ H Q z)⟩
theorem MW.mt {c : CT} (h : MW X W e c) : MT X W e c := ⟨h.pw.pt⟩
end

/-! ### names, constants -/
def cV (i : Nat) : C := fun ρ S => match ρ[i]? with
  | some (some d) => .ok d S
  | _ => .bad
def cK (d : D) : C := fun _ S => .ok d S
section
variable {X : Cx} {W : WX} {pos : Pos}
theorem me_v (i : Nat) {x : Str} (hN : X.N[i]? = some x := by rfl) (hv : Vis X.env.scope x := by first | exact Or.inl rfl | exact Or.inr (Or.inl rfl) | exact Or.inr (Or.inr rfl)) (hd : (x == ("__debug__" : Str)) = false := by decide)
    (hcd : (x == ("__classdict__" : Str)) = false := by decide) : ME X W (.Name x pos) (cV i) := by
  refine ⟨(pe_var (i := i) hN hv hd hcd).imp fun σ H Q h => ?_⟩
  obtain ⟨ρ, φ, S, he, hs, h⟩ := h
  unfold cV at h
  split at h
  · rename_i d q
    obtain ⟨v, e1, r⟩ := he.2 i d q
    exact ⟨v, e1, h φ H v (Le.refl _ _) hs r⟩
  · exact h.elim
theorem me_c {e : Expr} {d : D} {v : V} (h : PE X e (tC v)) (r : ∀ φ H, Rel X.K φ H d v) : ME X W e (cK d) := by
  refine ⟨h.imp fun σ H Q h => ?_⟩
  obtain ⟨ρ, φ, S, he, hs, h⟩ := h
  exact h φ H v (Le.refl _ _) hs (r φ H)
theorem me_int {i j} : ME X W (.Constant (.int i) j pos) (cK (.int i)) := me_c pe_int fun _ _ => .int i
theorem me_bl {b j} : ME X W (.Constant (.bool b) j pos) (cK (.bl b)) := me_c pe_bl fun _ _ => .bl b
theorem me_non {j} : ME X W (.Constant .none j pos) (cK .non) := me_c pe_non fun _ _ => .non
theorem me_str {x j} : ME X W (.Constant (.str x) j pos) (cK (.str x)) := me_c pe_str fun _ _ => .str x
/-- a module's constant that is no object -/
theorem me_glob {x : Str} {d : D} {v : V} {u : Value} (hg : Gl X x) (hm : X.mg x = some u) (r : RelV v u) (q : ∀ φ H, Rel X.K φ H d v) (hd : (x == ("__debug__" : Str)) = false := by decide) : ME X W (.Name x pos) (cK d) :=
  me_c (pe_glob hg hm r hd) q
end

/-! ### arguments -/
def caNil : CA := fun _ S => .ok [] S
def caCons (a : C) (b : CA) : CA := fun ρ S => (a ρ S).bind fun d S => (b ρ S).bind fun ds S => .ok (d :: ds) S
section
variable {X : Cx} {W : WX} {pos : Pos} {e : Expr} {es : List Expr}
theorem ma_nil : MA X W [] caNil := by
  refine ⟨pa_nil.imp fun σ H Q h => ?_, fun ρ S ds S' h => ?_⟩
  · obtain ⟨ρ, φ, S, he, hs, h⟩ := h
    exact h φ H [] (Le.refl _ _) hs .nil
  · cases h; rfl
theorem ma_cons {a : C} {b : CA} (ha : ME X W e a) (hb : MA X W es b) (hs : starEach (e :: es) X.env = (false, eval e X.env) :: starEach es X.env := by rfl) : MA X W (e :: es) (caCons a b) := by
  refine ⟨(pa_cons ha.pe hb.pa hs).imp fun σ H Q h => ?_, fun ρ S ds S' h => ?_⟩
  · obtain ⟨ρ, φ, S, he, hs, h⟩ := h
    refine ⟨ρ, φ, S, he, hs, h.step fun d S1 φ1 H1 v q l s r h => ?_⟩
    refine ⟨ρ, φ1, S1, he.mono l, s, h.step fun ds S2 φ2 H2 vs q2 l2 s2 r2 h => ?_⟩
    exact h φ2 H2 _ (Le.refl _ _) s2 (.cons (r.mono l2) r2)
  · unfold caCons at h
    cases q : a ρ S with
    | ok d S1 =>
      rw [q, R.bind_ok] at h
      cases q2 : b ρ S1 with
      | ok ds2 S2 =>
        rw [q2, R.bind_ok] at h
        injection h with h1 h2
        rw [← h1]
        simp [hb.len _ _ _ _ q2]
      | err x S2 => rw [q2] at h; cases h
      | bad => rw [q2] at h; cases h
    | err x S1 => rw [q] at h; cases h
    | bad => rw [q] at h; cases h
end

/-! ### operators by values -/
abbrev G2 := D → D → Sto → R D
def cB (g : G2) (a b : C) : C := fun ρ S => (a ρ S).bind fun x S => (b ρ S).bind fun y S => g x y S
def cU (g : D → Sto → R D) (a : C) : C := fun ρ S => (a ρ S).bind fun x S => g x S
/-- an operator of two values has a meaning -/
def OS (X : Cx) (f : Value → Value → Sem Value) (g : G2) : Prop :=
  ∃ r : R2, OpR X f r ∧ ∀ (W : WX) (σ : L2.St) (φ : Phi) (H : Hp) (S : Sto) (x y : D) (vx vy : V) (Q : VK), RS X.K φ H S → Rel X.K φ H x vx → Rel X.K φ H y vy → Ok X.K X.mg (Rel X.K) φ H (fun cls d H' => W cls d σ H') Q (g x y S) → r vx vy H Q
section
variable {X : Cx} {W : WX} {pos : Pos} {a b : Expr} {ca cb : C}
theorem bin_imp {ta : C} {r : R2} {g : G2} {ca cb : C} {σ : L2.St} {H : Hp} {Q : VK}
    (k : ∀ (φ : Phi) (H : Hp) (S : Sto) (x y : D) (vx vy : V), RS X.K φ H S → Rel X.K φ H x vx → Rel X.K φ H y vy → Ok X.K X.mg (Rel X.K) φ H (fun cls d H' => W cls d σ H') Q (g x y S) → r vx vy H Q)
    (h : rdE X W (cB g ca cb) σ H Q) : tOp r (rdE X W ca) (rdE X W cb) σ H Q := by
  obtain ⟨ρ, φ, S, he, hs, h⟩ := h
  refine ⟨ρ, φ, S, he, hs, h.step fun d S1 φ1 H1 v q l s rx h => ?_⟩
  refine ⟨ρ, φ1, S1, he.mono l, s, h.step fun d2 S2 φ2 H2 v2 q2 l2 s2 ry h => ?_⟩
  exact k φ2 H2 S2 d d2 v v2 s2 (rx.mono l2) ry h
theorem me_op {op : Operator} {g : G2} (ho : OS X (binaryOp op) g) (ha : ME X W a ca) (hb : ME X W b cb) : ME X W (.BinOp a op b pos) (cB g ca cb) := by
  obtain ⟨r, hr, k⟩ := ho
  exact ⟨(pe_op hr ha.pe hb.pe).imp fun σ H Q h => bin_imp (ta := ca) (fun φ H S x y vx vy s rx ry z => k W σ φ H S x y vx vy Q s rx ry z) h⟩
theorem me_cmp {op : CmpOp} {g : G2} (ho : OS X (compareOp op) g) (ha : ME X W a ca) (hb : ME X W b cb) (hm : behindInMarks op b = false) : ME X W (.Compare a [op] [b] pos) (cB g ca cb) := by
  obtain ⟨r, hr, k⟩ := ho
  exact ⟨(pe_cmpR hr ha.pe hb.pe hm).imp fun σ H Q h => bin_imp (ta := ca) (fun φ H S x y vx vy s rx ry z => k W σ φ H S x y vx vy Q s rx ry z) h⟩
end
def US (X : Cx) (f : Value → Sem Value) (g : D → Sto → R D) : Prop :=
  ∃ r : V → Hp → VK → Prop, UnR X f r ∧ ∀ (W : WX) (σ : L2.St) (φ : Phi) (H : Hp) (S : Sto) (x : D) (vx : V) (Q : VK), RS X.K φ H S → Rel X.K φ H x vx → Ok X.K X.mg (Rel X.K) φ H (fun cls d H' => W cls d σ H') Q (g x S) → r vx H Q
theorem me_un {X : Cx} {W : WX} {pos : Pos} {a : Expr} {ca : C} {op : UnaryOp} {g : D → Sto → R D} (ho : US X (unaryOp op) g) (ha : ME X W a ca) : ME X W (.UnaryOp op a pos) (cU g ca) := by
  obtain ⟨r, hr, k⟩ := ho
  refine ⟨(pe_un hr ha.pe).imp fun σ H Q h => ?_⟩
  obtain ⟨ρ, φ, S, he, hs, h⟩ := h
  refine ⟨ρ, φ, S, he, hs, h.step fun d S1 φ1 H1 v q l s rx h => ?_⟩
  exact k W σ φ1 H1 S1 d v Q s rx h
end MP

/-! MP: operators, comparisons, tests. -/
namespace MP
open PySem PySem.Spec PyProof.Rows L2

theorem line_ge {n : Nat} (h : n ≤ 16000000) : n ≤ sizeLine := Nat.le_trans h (by rw [sizeLine_eq]; decide)
theorem line_gt {n : Nat} (h : n < 16000000) : n < sizeLine := Nat.lt_of_lt_of_le h (by rw [sizeLine_eq]; decide)

section
variable {X : Cx}
/-- one rule or the other, by the meaning -/
theorem OS.of {f : Value → Value → Sem Value} {g : G2} (r : R2) (hr : OpR X f r) (k : ∀ (W : WX) (σ : L2.St) (φ : Phi) (H : Hp) (S : Sto) (x y : D) (vx vy : V) (Q : VK), RS X.K φ H S → Rel X.K φ H x vx → Rel X.K φ H y vy → Ok X.K X.mg (Rel X.K) φ H (fun cls d H' => W cls d σ H') Q (g x y S) → r vx vy H Q) : OS X f g := ⟨r, hr, k⟩
/-- the same meaning where this one says anything -/
theorem OS.or {f : Value → Value → Sem Value} {g1 g2 g : G2} (h1 : OS X f g1) (h2 : OS X f g2) (e : ∀ x y S, g x y S = g1 x y S ∨ g x y S = g2 x y S) : OS X f g := by
  obtain ⟨r1, a1, k1⟩ := h1
  obtain ⟨r2, a2, k2⟩ := h2
  refine ⟨_, a1.or a2, fun W σ φ H S x y vx vy Q s rx ry z => ?_⟩
  rcases e x y S with e | e
  · rw [e] at z
    exact .inl (k1 W σ φ H S x y vx vy Q s rx ry z)
  · rw [e] at z
    exact .inr (k2 W σ φ H S x y vx vy Q s rx ry z)

/-- ints -/
def g2I (c : Int → Int → Prop) [∀ i j, Decidable (c i j)] (f : Int → Int → D) : G2
  | .int i, .int j, S => if c i j then .ok (f i j) S else .bad
  | _, _, _ => .bad
theorem os_I {f : Value → Value → Sem Value} {c c' : Int → Int → Prop} [∀ i j, Decidable (c i j)] {g : Int → Int → D} {g' : Int → Int → V} (hr : OpR X f (rI c' g')) (hc : ∀ i j, c i j → c' i j) (hg : ∀ φ H i j, Rel X.K φ H (g i j) (g' i j)) : OS X f (g2I c g) := by
  refine ⟨_, hr, fun W σ φ H S x y vx vy Q s rx ry z => ?_⟩
  cases rx <;> try exact z.elim
  cases ry <;> try exact z.elim
  rename_i i j
  unfold g2I at z
  by_cases h : c i j
  · simp only [h, if_true] at z
    exact ⟨i, j, rfl, rfl, hc i j h, z φ H _ (Le.refl _ _) s (hg φ H i j)⟩
  · simp only [h, if_false] at z
    exact z.elim
def g2I0 (f : Int → Int → D) : G2
  | .int i, .int j, S => .ok (f i j) S
  | _, _, _ => .bad
theorem os_I0 {f : Value → Value → Sem Value} {g : Int → Int → D} {g' : Int → Int → V} (hr : OpR X f (rI0 g')) (hg : ∀ φ H i j, Rel X.K φ H (g i j) (g' i j)) : OS X f (g2I0 g) := by
  refine ⟨_, hr, fun W σ φ H S x y vx vy Q s rx ry z => ?_⟩
  cases rx <;> try exact z.elim
  cases ry <;> try exact z.elim
  rename_i i j
  exact ⟨i, j, rfl, rfl, z φ H _ (Le.refl _ _) s (hg φ H i j)⟩

def gSub : G2 := g2I0 fun i j => .int (i - j)
def gAnd : G2 := g2I0 fun i j => .int (Builtin.bitAnd i j)
def gOr : G2 := g2I0 fun i j => .int (Builtin.bitOr i j)
def gXor : G2 := g2I0 fun i j => .int (Builtin.bitXor i j)
def gFdiv : G2 := g2I (fun _ j => 0 < j ∧ j < 1073741824) fun i j => .int (i / j)
def gMod : G2 := g2I (fun _ j => 0 < j) fun i j => .int (i % j)
def gPow : G2 := g2I (fun i j => 0 ≤ j ∧ j ≤ 1000000 ∧ i.natAbs < 18446744073709551616) fun i j => .int (i ^ j.toNat)
def gShl : G2 := g2I (fun i j => 0 ≤ j ∧ j ≤ 1000000 ∧ i.natAbs < 18446744073709551616) fun i j => .int (i * 2 ^ j.toNat)
def gShr : G2 := g2I (fun _ j => 0 ≤ j) fun i j => .int (i / 2 ^ j.toNat)
theorem os_sub : OS X (binaryOp .Sub) gSub := os_I0 op_sub fun _ _ _ _ => .int _
theorem os_and : OS X (binaryOp .BitAnd) gAnd := os_I0 op_and fun _ _ _ _ => .int _
theorem os_or : OS X (binaryOp .BitOr) gOr := os_I0 op_or fun _ _ _ _ => .int _
theorem os_xor : OS X (binaryOp .BitXor) gXor := os_I0 op_xor fun _ _ _ _ => .int _
theorem os_fdiv : OS X (binaryOp .FloorDiv) gFdiv := os_I op_fdiv (fun _ _ h => h) fun _ _ _ _ => .int _
theorem os_mod : OS X (binaryOp .Mod) gMod := os_I op_mod (fun _ _ h => h) fun _ _ _ _ => .int _
theorem pow64 : (18446744073709551616 : Nat) = 2 ^ 64 := by decide
theorem os_pow : OS X (binaryOp .Pow) gPow := os_I op_pow (fun i j h => ⟨h.1, h.2.1, by rw [← pow64]; exact h.2.2⟩) fun _ _ _ _ => .int _
theorem os_shl : OS X (binaryOp .LShift) gShl := os_I op_shl (fun i j h => ⟨h.1, h.2.1, by rw [← pow64]; exact h.2.2⟩) fun _ _ _ _ => .int _
theorem os_shr : OS X (binaryOp .RShift) gShr := os_I op_shr (fun _ _ h => h) fun _ _ _ _ => .int _
theorem osi_sub : OS X (inplaceOp .Sub) gSub := os_I0 iop_sub fun _ _ _ _ => .int _
theorem osi_and : OS X (inplaceOp .BitAnd) gAnd := os_I0 iop_and fun _ _ _ _ => .int _
theorem osi_or : OS X (inplaceOp .BitOr) gOr := os_I0 iop_or fun _ _ _ _ => .int _
theorem osi_xor : OS X (inplaceOp .BitXor) gXor := os_I0 iop_xor fun _ _ _ _ => .int _
theorem osi_fdiv : OS X (inplaceOp .FloorDiv) gFdiv := os_I iop_fdiv (fun _ _ h => h) fun _ _ _ _ => .int _
theorem osi_mod : OS X (inplaceOp .Mod) gMod := os_I iop_mod (fun _ _ h => h) fun _ _ _ _ => .int _
theorem osi_shl : OS X (inplaceOp .LShift) gShl := os_I iop_shl (fun i j h => ⟨h.1, h.2.1, by rw [← pow64]; exact h.2.2⟩) fun _ _ _ _ => .int _
theorem osi_shr : OS X (inplaceOp .RShift) gShr := os_I iop_shr (fun _ _ h => h) fun _ _ _ _ => .int _
def gLt : G2 := g2I0 fun i j => .bl (decide (i < j))
def gLe : G2 := g2I0 fun i j => .bl (decide (i ≤ j))
def gGt : G2 := g2I0 fun i j => .bl (decide (j < i))
def gGe : G2 := g2I0 fun i j => .bl (decide (j ≤ i))
theorem os_lt : OS X (compareOp .Lt) gLt := os_I0 op_lt fun _ _ _ _ => .bl _
theorem os_le : OS X (compareOp .LtE) gLe := os_I0 op_le fun _ _ _ _ => .bl _
theorem os_gt : OS X (compareOp .Gt) gGt := os_I0 op_gt fun _ _ _ _ => .bl _
theorem os_ge : OS X (compareOp .GtE) gGe := os_I0 op_ge fun _ _ _ _ => .bl _

/-! ### + -/
def gCatL : G2
  | .lst xs, .lst ys, S => if xs.length + ys.length ≤ 16000000 then .ok (.lst (xs ++ ys)) S else .bad
  | _, _, _ => .bad
def gCatT : G2
  | .tup xs, .tup ys, S => if xs.length + ys.length ≤ 16000000 then .ok (.tup (xs ++ ys)) S else .bad
  | _, _, _ => .bad
def gCatS : G2
  | .str x, .str y, S => if x.length + y.length ≤ 16000000 then .ok (.str (x ++ y)) S else .bad
  | _, _, _ => .bad
def gAdd : G2
  | .int i, .int j, S => .ok (.int (i + j)) S
  | .str x, .str y, S => if x.length + y.length ≤ 16000000 then .ok (.str (x ++ y)) S else .bad
  | .lst xs, .lst ys, S => if xs.length + ys.length ≤ 16000000 then .ok (.lst (xs ++ ys)) S else .bad
  | .tup xs, .tup ys, S => if xs.length + ys.length ≤ 16000000 then .ok (.tup (xs ++ ys)) S else .bad
  | _, _, _ => .bad
theorem os_catL : OS X (binaryOp .Add) gCatL := by
  refine ⟨_, op_cat, fun W σ φ H S x y vx vy Q s rx ry z => ?_⟩
  cases rx <;> try exact z.elim
  rename_i a vs xs z1 h1 w1 r1
  cases ry <;> try exact z.elim
  rename_i b ws ys z2 h2 w2 r2
  unfold gCatL at z
  by_cases h : xs.length + ys.length ≤ 16000000
  · simp only [h, if_true] at z
    have hl : vs.length + ws.length ≤ 16000000 := by rw [← r1.length, ← r2.length]; exact h
    refine ⟨a, b, vs, ws, rfl, rfl, h1, h2, line_ge hl, fun p hp => ?_⟩
    exact z φ _ _ (Le.fresh hp) (s.laid hp) (.lst (by rw [List.length_append]; exact line_ge hl) upd_same (s.fresh hp) ((r1.append r2).laid hp))
  · simp only [h, if_false] at z
    exact z.elim
theorem os_catT : OS X (binaryOp .Add) gCatT := by
  refine ⟨_, op_catA, fun W σ φ H S x y vx vy Q s rx ry z => ?_⟩
  cases rx <;> try exact z.elim
  rename_i a vs xs z1 h1 r1
  cases ry <;> try exact z.elim
  rename_i b ws ys z2 h2 r2
  unfold gCatT at z
  by_cases h : xs.length + ys.length ≤ 16000000
  · simp only [h, if_true] at z
    have hl : vs.length + ws.length ≤ 16000000 := by rw [← r1.length, ← r2.length]; exact h
    have rr := r1.append r2
    refine ⟨a, b, vs, ws, rfl, rfl, h1.sq, h2.sq, line_ge hl, fun e => ?_, fun _ e => ?_, fun _ _ p hp => ?_⟩
    · subst e
      exact z φ H _ (Le.refl _ _) s (.tup z2 h2 rr)
    · subst e
      rw [List.append_nil] at rr
      exact z φ H _ (Le.refl _ _) s (.tup z1 h1 rr)
    · exact z φ _ _ (Le.fresh hp) (s.laid hp) (.tup (by rw [List.length_append]; exact line_ge hl) (.inl ⟨.inl upd_same, s.fresh hp⟩) (rr.laid hp))
  · simp only [h, if_false] at z
    exact z.elim
theorem os_catS : OS X (binaryOp .Add) gCatS := by
  refine ⟨_, op_add_str, fun W σ φ H S x y vx vy Q s rx ry z => ?_⟩
  cases rx <;> try exact z.elim
  cases ry <;> try exact z.elim
  rename_i x y
  unfold gCatS at z
  by_cases h : x.length + y.length ≤ 16000000
  · simp only [h, if_true] at z
    exact ⟨x, y, rfl, rfl, line_ge h, z φ H _ (Le.refl _ _) s (.str _)⟩
  · simp only [h, if_false] at z
    exact z.elim
theorem os_add : OS X (binaryOp .Add) gAdd := by
  refine OS.or (os_I0 (g := fun i j => .int (i + j)) op_add fun _ _ _ _ => .int _) (OS.or os_catL (OS.or os_catT os_catS (g := fun x y S => match x, y with
    | .tup _, .tup _ => gCatT x y S
    | .str _, .str _ => gCatS x y S
    | _, _ => .bad) ?_) (g := fun x y S => match x, y with
    | .lst _, .lst _ => gCatL x y S
    | .tup _, .tup _ => gCatT x y S
    | .str _, .str _ => gCatS x y S
    | _, _ => .bad) ?_) ?_
  · intro x y S
    cases x <;> cases y <;> first | exact .inl rfl | exact .inr rfl
  · intro x y S
    cases x <;> cases y <;> first | exact .inl rfl | exact .inr rfl
  · intro x y S
    cases x <;> cases y <;> first | exact .inl rfl | exact .inr rfl
/-- x += y of ints and texts -/
def gIAdd : G2
  | .int i, .int j, S => .ok (.int (i + j)) S
  | .str x, .str y, S => if x.length + y.length ≤ 16000000 then .ok (.str (x ++ y)) S else .bad
  | _, _, _ => .bad
theorem osi_add : OS X (inplaceOp .Add) gIAdd := by
  refine OS.or (os_I0 (g := fun i j => .int (i + j)) iop_add fun _ _ _ _ => .int _) (g2 := gCatS) ⟨_, iop_add_str, fun W σ φ H S x y vx vy Q s rx ry z => ?_⟩ ?_
  · cases rx <;> try exact z.elim
    cases ry <;> try exact z.elim
    rename_i x y
    unfold gCatS at z
    by_cases h : x.length + y.length ≤ 16000000
    · simp only [h, if_true] at z
      exact ⟨x, y, rfl, rfl, line_ge h, z φ H _ (Le.refl _ _) s (.str _)⟩
    · simp only [h, if_false] at z
      exact z.elim
  · intro x y S
    cases x <;> cases y <;> first | exact .inl rfl | exact .inr rfl

/-! ### * -/
def gMulI : G2 := g2I (fun i j => i.natAbs < 18446744073709551616 ∨ j.natAbs < 18446744073709551616) fun i j => .int (i * j)
def gRepL : G2
  | .lst xs, .int k, S => if 0 ≤ k ∧ k ≤ 100000 ∧ xs.length * k.toNat ≤ 16000000 then .ok (.lst (List.replicate k.toNat xs).flatten) S else .bad
  | _, _, _ => .bad
def gRepT : G2
  | .tup xs, .int k, S => if xs ≠ [] ∧ 2 ≤ k ∧ k ≤ 1000 ∧ xs.length ≤ 1000 then .ok (.tup (List.replicate k.toNat xs).flatten) S else .bad
  | _, _, _ => .bad
def gMul : G2
  | .int i, .int j, S => gMulI (.int i) (.int j) S
  | .lst xs, .int k, S => gRepL (.lst xs) (.int k) S
  | .tup xs, .int k, S => gRepT (.tup xs) (.int k) S
  | _, _, _ => .bad
theorem os_mulI : OS X (binaryOp .Mult) gMulI := os_I op_mul (fun i j h => by
  rcases h with h | h
  · refine .inl ?_
    show -(2 ^ 64) < i ∧ i < 2 ^ 64
    omega
  · refine .inr ?_
    show -(2 ^ 64) < j ∧ j < 2 ^ 64
    omega) fun _ _ _ _ => .int _
theorem flat_len {α : Type} (xs : List α) : ∀ k : Nat, (List.replicate k xs).flatten.length = k * xs.length
  | 0 => by simp
  | k + 1 => by
    rw [List.replicate_succ, List.flatten_cons, List.length_append, flat_len xs k, Nat.succ_mul]
    omega
theorem os_repL : OS X (binaryOp .Mult) gRepL := by
  refine ⟨_, op_rep, fun W σ φ H S x y vx vy Q s rx ry z => ?_⟩
  cases rx <;> try exact z.elim
  rename_i a vs xs z1 h1 w1 r1
  cases ry <;> try exact z.elim
  rename_i k
  unfold gRepL at z
  by_cases h : 0 ≤ k ∧ k ≤ 100000 ∧ xs.length * k.toNat ≤ 16000000
  · simp only [h, and_self, if_true] at z
    have hl : vs.length * k.toNat ≤ 16000000 := by rw [← r1.length]; exact h.2.2
    have h63 : (100000 : Int) < 2 ^ 63 := by decide
    refine ⟨a, k, vs, rfl, rfl, h1, by omega, by omega, line_ge hl, fun p hp => ?_⟩
    refine z φ _ _ (Le.fresh hp) (s.laid hp) (.lst ?_ upd_same (s.fresh hp) ((r1.reps k.toNat).laid hp))
    rw [flat_len, Nat.mul_comm]
    exact line_ge hl
  · simp only [h, if_false] at z
    exact z.elim
theorem os_repT : OS X (binaryOp .Mult) gRepT := by
  refine ⟨_, op_repT, fun W σ φ H S x y vx vy Q s rx ry z => ?_⟩
  cases rx <;> try exact z.elim
  rename_i a vs xs z1 h1 r1
  cases ry <;> try exact z.elim
  rename_i k
  unfold gRepT at z
  by_cases h : xs ≠ [] ∧ 2 ≤ k ∧ k ≤ 1000 ∧ xs.length ≤ 1000
  · simp only [h, ne_eq, not_false_eq_true, and_self, if_true] at z
    have hl := r1.length
    refine ⟨a, k, vs, rfl, rfl, h1.sq, fun e => ?_, h.2.1, h.2.2.1, by omega, fun p hp => ?_⟩
    · subst e
      cases r1
      exact h.1 rfl
    · refine z φ _ _ (Le.fresh hp) (s.laid hp) (.tup ?_ (.inl ⟨.inl upd_same, s.fresh hp⟩) ((r1.reps k.toNat).laid hp))
      rw [flat_len]
      have hm : k.toNat * vs.length ≤ 1000 * 1000 := Nat.mul_le_mul (by omega) (by omega)
      exact line_ge (Nat.le_trans hm (by decide))
  · simp only [h, if_false] at z
    exact z.elim
theorem os_mul : OS X (binaryOp .Mult) gMul := by
  refine OS.or os_mulI (OS.or os_repL os_repT (g := fun x y S => match x, y with
    | .lst _, .int _ => gRepL x y S
    | .tup _, .int _ => gRepT x y S
    | _, _ => .bad) ?_) ?_
  · intro x y S
    cases x <;> cases y <;> first | exact .inl rfl | exact .inr rfl
  · intro x y S
    cases x <;> cases y <;> first | exact .inl rfl | exact .inr rfl

/-! ### == -/
mutual
def D.toP : D → PyData
  | .non => .none
  | .bl b => .bool b
  | .int i => .int i
  | .str x => .str x
  | .ty _ => .dict []
  | .tup xs => .tuple (D.toPs xs)
  | .lst xs => .list (D.toPs xs)
  | .rol xs => .list (D.toPs xs)
  | .ref _ _ => .dict []
def D.toPs : List D → List PyData
  | [] => []
  | x :: xs => x.toP :: D.toPs xs
end
mutual
theorem dp_of {K : PySem.W.Frag} {φ : Phi} {H : Hp} : ∀ {d : D} {v : V}, Rel K φ H d v → PyData.canLay0 d.toP = true → Dp K H v d.toP
  | _, _, .non, _ => .non
  | _, _, .bl b, _ => .bl b
  | _, _, .int i, _ => .int i
  | _, _, .str x, _ => .str x
  | _, _, .ty n, h => by simp [D.toP, PyData.canLay0] at h
  | _, _, .tup z f r, h => .tup f.sq (dps_of r (by simpa [D.toP, PyData.canLay0] using h))
  | _, _, .lst z f w r, h => .lst (SqL.of f) (dps_of r (by simpa [D.toP, PyData.canLay0] using h))
  | _, _, .rol z f r, h => .lst f.sq (dps_of r (by simpa [D.toP, PyData.canLay0] using h))
  | _, _, .ref e, h => by simp [D.toP, PyData.canLay0] at h
theorem dps_of {K : PySem.W.Frag} {φ : Phi} {H : Hp} : ∀ {ds : List D} {vs : List V}, RelL K φ H ds vs → PyData.canLayAll0 (D.toPs ds) = true → DpAll K H vs (D.toPs ds)
  | _, _, .nil, _ => .nil
  | _, _, .cons r rs, h => by
    simp only [D.toPs, PyData.canLayAll0, Bool.and_eq_true] at h
    exact .cons (dp_of r h.1) (dps_of rs h.2)
end
def gEq : G2
  | .int i, .int j, S => .ok (.bl (decide (i = j))) S
  | .bl i, .bl j, S => .ok (.bl (decide (i = j))) S
  | .str i, .str j, S => .ok (.bl (decide (i = j))) S
  | .int _, .str _, S => .ok (.bl false) S
  | .str _, .int _, S => .ok (.bl false) S
  | .non, .int _, S => .ok (.bl false) S
  | .non, .str _, S => .ok (.bl false) S
  | .non, .bl _, S => .ok (.bl false) S
  | .int _, .non, S => .ok (.bl false) S
  | .str _, .non, S => .ok (.bl false) S
  | .bl _, .non, S => .ok (.bl false) S
  | .bl _, .str _, S => .ok (.bl false) S
  | .str _, .bl _, S => .ok (.bl false) S
  | x, y, S => if SeqAt.shaped x.toP && SeqAt.shaped y.toP then .ok (.bl (PyData.eqv x.toP y.toP)) S else .bad
def gNe : G2
  | .int i, .int j, S => .ok (.bl (!decide (i = j))) S
  | .bl i, .bl j, S => .ok (.bl (!decide (i = j))) S
  | .str i, .str j, S => .ok (.bl (!decide (i = j))) S
  | .int _, .str _, S => .ok (.bl true) S
  | .str _, .int _, S => .ok (.bl true) S
  | .non, .int _, S => .ok (.bl true) S
  | .non, .str _, S => .ok (.bl true) S
  | .non, .bl _, S => .ok (.bl true) S
  | .int _, .non, S => .ok (.bl true) S
  | .str _, .non, S => .ok (.bl true) S
  | .bl _, .non, S => .ok (.bl true) S
  | .bl _, .str _, S => .ok (.bl true) S
  | .str _, .bl _, S => .ok (.bl true) S
  | x, y, S => if SeqAt.shaped x.toP && SeqAt.shaped y.toP then .ok (.bl (!PyData.eqv x.toP y.toP)) S else .bad
theorem os_eqGen (hu : X.A.units + 64 < cLine) : OS X (compareOp .Eq) (fun x y S => if SeqAt.shaped x.toP && SeqAt.shaped y.toP then .ok (.bl (PyData.eqv x.toP y.toP)) S else .bad) := by
  refine ⟨_, op_eqD hu, fun W σ φ H S x y vx vy Q s rx ry z => ?_⟩
  by_cases h : (SeqAt.shaped x.toP && SeqAt.shaped y.toP) = true
  · simp only [h, if_true] at z
    rw [Bool.and_eq_true] at h
    exact ⟨_, _, dp_of rx (SeqAt.canLay_of_shaped h.1), dp_of ry (SeqAt.canLay_of_shaped h.2), h.1, h.2, z φ H _ (Le.refl _ _) s (.bl _)⟩
  · simp only [h] at z
    exact z.elim
theorem os_neGen (hu : X.A.units + 64 < cLine) : OS X (compareOp .NotEq) (fun x y S => if SeqAt.shaped x.toP && SeqAt.shaped y.toP then .ok (.bl (!PyData.eqv x.toP y.toP)) S else .bad) := by
  refine ⟨_, op_neD hu, fun W σ φ H S x y vx vy Q s rx ry z => ?_⟩
  by_cases h : (SeqAt.shaped x.toP && SeqAt.shaped y.toP) = true
  · simp only [h, if_true] at z
    rw [Bool.and_eq_true] at h
    exact ⟨_, _, dp_of rx (SeqAt.canLay_of_shaped h.1), dp_of ry (SeqAt.canLay_of_shaped h.2), h.1, h.2, z φ H _ (Le.refl _ _) s (.bl _)⟩
  · simp only [h] at z
    exact z.elim
def gEqS : G2
  | .int i, .int j, S => .ok (.bl (decide (i = j))) S
  | .bl i, .bl j, S => .ok (.bl (decide (i = j))) S
  | .str i, .str j, S => .ok (.bl (decide (i = j))) S
  | .int _, .str _, S => .ok (.bl false) S
  | .str _, .int _, S => .ok (.bl false) S
  | .non, .int _, S => .ok (.bl false) S
  | .non, .str _, S => .ok (.bl false) S
  | .non, .bl _, S => .ok (.bl false) S
  | .int _, .non, S => .ok (.bl false) S
  | .str _, .non, S => .ok (.bl false) S
  | .bl _, .non, S => .ok (.bl false) S
  | .bl _, .str _, S => .ok (.bl false) S
  | .str _, .bl _, S => .ok (.bl false) S
  | _, _, _ => .bad
theorem bl_to {K : PySem.W.Frag} {mg : Str → Option Value} {φ : Phi} {H : Hp} {S : Sto} {E : Value → Option Addr → Hp → Prop} {Q : VK} {b c : Bool} (s : RS K φ H S) (z : Ok K mg (Rel K) φ H E Q (.ok (.bl b) S)) (e : c = b) : Q (.bl c) H := by
  subst e
  exact z φ H _ (Le.refl _ _) s (.bl _)
theorem os_eqS : OS X (compareOp .Eq) gEqS := by
  refine ⟨_, op_eq, fun W σ φ H S x y vx vy Q s rx ry z => ?_⟩
  cases rx <;> cases ry <;> first
    | exact z.elim
    | exact ⟨rfl, bl_to s z (by simp)⟩
theorem os_neS : OS X (compareOp .NotEq) (fun x y S => (gEqS x y S).bind fun d S => match d with | .bl b => .ok (.bl (!b)) S | _ => .bad) := by
  refine ⟨_, op_ne, fun W σ φ H S x y vx vy Q s rx ry z => ?_⟩
  cases rx <;> cases ry <;> first
    | exact z.elim
    | exact ⟨rfl, bl_to s z (by simp)⟩
theorem os_eq (hu : X.A.units + 64 < cLine) : OS X (compareOp .Eq) gEq := by
  refine OS.or os_eqS (os_eqGen hu) ?_
  intro x y S
  cases x <;> cases y <;> first | exact .inl rfl | exact .inr rfl
theorem os_ne (hu : X.A.units + 64 < cLine) : OS X (compareOp .NotEq) gNe := by
  refine OS.or os_neS (os_neGen hu) ?_
  intro x y S
  cases x <;> cases y <;> first | exact .inl rfl | exact .inr rfl
/-- x is None -/
def D.isNon : D → Bool
  | .non => true
  | _ => false
theorem rel_non {K : PySem.W.Frag} {φ : Phi} {H : Hp} {d : D} {v : V} (r : Rel K φ H d v) : decide (v = .non) = d.isNon := by
  cases r <;> rfl
def gIsN : G2
  | x, .non, S => .ok (.bl x.isNon) S
  | _, _, _ => .bad
def gNotN : G2
  | x, .non, S => .ok (.bl (!x.isNon)) S
  | _, _, _ => .bad
theorem os_isN : OS X (compareOp .Is) gIsN := by
  refine ⟨_, op_isN, fun W σ φ H S x y vx vy Q s rx ry z => ?_⟩
  cases ry <;> try (simp only [gIsN] at z; exact z.elim)
  exact ⟨rfl, bl_to s (b := x.isNon) z (rel_non rx)⟩
theorem os_notN : OS X (compareOp .IsNot) gNotN := by
  refine ⟨_, op_notN, fun W σ φ H S x y vx vy Q s rx ry z => ?_⟩
  cases ry <;> try (simp only [gNotN] at z; exact z.elim)
  exact ⟨rfl, bl_to s (b := !x.isNon) z (by rw [rel_non rx])⟩
end

/-! ### unary -/
def gNeg : D → Sto → R D
  | .int i, S => .ok (.int (-i)) S
  | _, _ => .bad
theorem us_neg {X : Cx} : US X (unaryOp .USub) gNeg := by
  refine ⟨_, un_neg, fun W σ φ H S x vx Q s rx z => ?_⟩
  cases rx <;> try exact z.elim
  rename_i i
  exact ⟨i, rfl, z φ H _ (Le.refl _ _) s (.int _)⟩

/-! ### truth, tests -/
def tru : D → Sto → R Bool
  | .bl b, S => .ok b S
  | .int i, S => .ok (i != 0) S
  | .non, S => .ok false S
  | .tup xs, S => .ok (!xs.isEmpty) S
  | .lst xs, S => .ok (!xs.isEmpty) S
  | .rol xs, S => .ok (!xs.isEmpty) S
  | .ref l i, S => match look S l i with
    | some (.lst xs) => .ok (!xs.isEmpty) S
    | _ => .bad
  | .str x, S => if x.length ≤ 16000000 then .ok ((x.length : Int) != 0) S else .bad
  | _, _ => .bad
theorem relL_empty {K : PySem.W.Frag} {φ : Phi} {H : Hp} {ds : List D} {vs : List V} (r : RelL K φ H ds vs) : vs.isEmpty = ds.isEmpty := by
  cases r <;> rfl
theorem tru_of {X : Cx} {W : WX} {σ : L2.St} {φ : Phi} {H : Hp} {S : Sto} {d : D} {v : V} {Q : Bool → Hp → Prop} (s : RS X.K φ H S) (r : Rel X.K φ H d v) (z : Ok X.K X.mg eqB φ H (fun cls d H' => W cls d σ H') Q (tru d S)) : ∃ k, TruV X.K v H k ∧ Q k H := by
  have fin : ∀ b, Ok X.K X.mg eqB φ H (fun cls d H' => W cls d σ H') Q (.ok b S) → Q b H := fun b z => z φ H b (Le.refl _ _) s rfl
  cases r with
  | non => exact ⟨false, rfl, fin _ z⟩
  | bl b => exact ⟨b, rfl, fin _ z⟩
  | int i => exact ⟨_, rfl, fin _ z⟩
  | str x =>
    unfold tru at z
    by_cases h : x.length ≤ 16000000
    · simp only [h, if_true] at z
      exact ⟨_, ⟨line_ge h, rfl⟩, fin _ z⟩
    · simp only [h, if_false] at z
      exact z.elim
  | ty n => exact z.elim
  | tup zz f rr => exact ⟨_, .inr (.inl ⟨_, f.sq, by rw [relL_empty rr]⟩), fin _ z⟩
  | lst zz f w rr => exact ⟨_, .inl ⟨_, SqL.of f, by rw [relL_empty rr]⟩, fin _ z⟩
  | rol zz f rr => exact ⟨_, .inl ⟨_, f.sq, by rw [relL_empty rr]⟩, fin _ z⟩
  | ref e =>
    rename_i l i a
    unfold tru at z
    cases q : look S l i with
    | none => simp only [q] at z; exact z.elim
    | some o =>
      cases o with
      | dead => simp only [q] at z; exact z.elim
      | lst xs =>
        simp only [q] at z
        obtain ⟨vs, hv, _, rr⟩ := s.obj l i _ a q e
        exact ⟨_, .inl ⟨_, SqL.of hv, by rw [relL_empty rr]⟩, fin _ z⟩
def cT (a : C) : CT := fun ρ S => (a ρ S).bind fun d S => tru d S
def cTB (a : C) : CT := fun ρ S => (a ρ S).bind fun d S => match d with
  | .bl b => .ok b S
  | _ => .bad
section
variable {X : Cx} {W : WX} {pos : Pos} {a b c : Expr} {ca cb cc : C} {ta tb : CT} {rest : List Expr}
/-- a test by an expression's truth -/
theorem mt_e (ha : ME X W a ca) (he : ∀ whole, isTrue a X.env whole = (do let v ← whole; standAt a.pos; holding [v] (truthy v)) := by intro _; rfl) : MT X W a (cT ca) := by
  refine ⟨(pt_truth ha.pe he).imp fun σ H Q h => ?_⟩
  obtain ⟨ρ, φ, S, hE, hs, h⟩ := h
  exact ⟨ρ, φ, S, hE, hs, h.step fun d S1 φ1 H1 v q l s r z => tru_of s r z⟩
theorem rdT_of {t : CT} {c : C} {σ : L2.St} {H : Hp} {Q : Bool → Hp → Prop} (h : rdT X W (cTB c) σ H Q) : rdE X W c σ H (fun x H' => ∃ k, x = .bl k ∧ Q k H') := by
  obtain ⟨ρ, φ, S, hE, hs, h⟩ := h
  refine ⟨ρ, φ, S, hE, hs, h.step fun d S1 φ1 H1 v q l s r z => ?_⟩
  cases r <;> try exact z.elim
  rename_i b
  exact ⟨b, rfl, z φ1 H1 b (Le.refl _ _) s rfl⟩
theorem mt_cmp {op : CmpOp} {g : G2} (ho : OS X (compareOp op) g) (ha : ME X W a ca) (hb : ME X W b cb) (hm : behindInMarks op b = false) : MT X W (.Compare a [op] [b] pos) (cTB (cB g ca cb)) := by
  obtain ⟨r, hr, k⟩ := ho
  refine ⟨(pt_cmpR hr ha.pe hb.pe hm).imp fun σ H Q h => ?_⟩
  have h2 := rdT_of (t := cTB (cB g ca cb)) h
  exact bin_imp (ta := ca) (fun φ H S x y vx vy s rx ry z => k W σ φ H S x y vx vy _ s rx ry z) h2
def tAnd (a b : CT) : CT := fun ρ S => (a ρ S).bind fun k S => if k = true then b ρ S else .ok false S
def tOr (a b : CT) : CT := fun ρ S => (a ρ S).bind fun k S => if k = true then .ok true S else b ρ S
def tNot (a : CT) : CT := fun ρ S => (a ρ S).bind fun k S => .ok (!k) S
theorem mw_and1 (ha : MT X W a ta) : MW X W (.BoolOp .And [a] pos) ta := ⟨pw_and1 ha.pt⟩
theorem mw_or1 (ha : MT X W a ta) : MW X W (.BoolOp .Or [a] pos) ta := ⟨pw_or1 ha.pt⟩
theorem mw_and (ha : MT X W a ta) (hb : MW X W (.BoolOp .And (b :: rest) pos) tb) : MW X W (.BoolOp .And (a :: b :: rest) pos) (tAnd ta tb) := by
  refine ⟨(pw_and ha.pt hb.pw).imp fun σ H Q h => ?_⟩
  obtain ⟨ρ, φ, S, hE, hs, h⟩ := h
  refine ⟨ρ, φ, S, hE, hs, h.step fun k S1 φ1 H1 v q l s r z => ?_⟩
  cases r
  cases k with
  | true =>
    simp only [if_true] at z ⊢
    exact ⟨ρ, φ1, S1, hE.mono l, s, z⟩
  | false =>
    simp only [Bool.false_eq_true, if_false] at z ⊢
    exact z φ1 H1 false (Le.refl _ _) s rfl
theorem mw_or (ha : MT X W a ta) (hb : MW X W (.BoolOp .Or (b :: rest) pos) tb) : MW X W (.BoolOp .Or (a :: b :: rest) pos) (tOr ta tb) := by
  refine ⟨(pw_or ha.pt hb.pw).imp fun σ H Q h => ?_⟩
  obtain ⟨ρ, φ, S, hE, hs, h⟩ := h
  refine ⟨ρ, φ, S, hE, hs, h.step fun k S1 φ1 H1 v q l s r z => ?_⟩
  cases r
  cases k with
  | true =>
    simp only [if_true] at z ⊢
    exact z φ1 H1 true (Le.refl _ _) s rfl
  | false =>
    simp only [Bool.false_eq_true, if_false] at z ⊢
    exact ⟨ρ, φ1, S1, hE.mono l, s, z⟩
theorem mt_not (ha : MT X W a ta) : MT X W (.UnaryOp .Not a pos) (tNot ta) := by
  refine ⟨(pt_not ha.pt).imp fun σ H Q h => ?_⟩
  obtain ⟨ρ, φ, S, hE, hs, h⟩ := h
  refine ⟨ρ, φ, S, hE, hs, h.step fun k S1 φ1 H1 v q l s r z => ?_⟩
  cases r
  exact z φ1 H1 (!k) (Le.refl _ _) s rfl
/-! ### and, or, not as values -/
def cAnd (a b : C) : C := fun ρ S => (a ρ S).bind fun x S => (tru x S).bind fun k S => if k = true then b ρ S else .ok x S
def cOr (a b : C) : C := fun ρ S => (a ρ S).bind fun x S => (tru x S).bind fun k S => if k = true then .ok x S else b ρ S
def cNot (a : C) : C := fun ρ S => (a ρ S).bind fun x S => (tru x S).bind fun k S => .ok (.bl (!k)) S
theorem tru_keeps {d : D} {S S' : Sto} {b : Bool} (h : tru d S = .ok b S') : S' = S := by
  unfold tru at h
  repeat' split at h
  all_goals first
    | (injection h with h1 h2; exact h2.symm)
    | cases h
theorem Ok.tru {σ : L2.St} {φ : Phi} {H : Hp} {S : Sto} {d : D} {v : V} {Q : VK} {f : Bool → R D} (s : RS X.K φ H S) (r : Rel X.K φ H d v) (z : Ok X.K X.mg (Rel X.K) φ H (fun cls d H' => W cls d σ H') Q ((MP.tru d S).bind fun k _ => f k)) :
    ∃ k, TruV X.K v H k ∧ Ok X.K X.mg (Rel X.K) φ H (fun cls d H' => W cls d σ H') Q (f k) := by
  refine tru_of (W := W) (σ := σ) (Q := fun k H' => Ok X.K X.mg (Rel X.K) φ H (fun cls d H' => W cls d σ H') Q (f k)) s r ?_
  cases q : MP.tru d S with
  | ok k S' =>
    rw [q, R.bind_ok] at z
    intro φ' H' v l _ e
    cases e
    exact z
  | err x S' =>
    unfold MP.tru at q
    repeat' split at q
    all_goals cases q
  | bad => rw [q] at z; exact z.elim
theorem me_one {op} (h : ME X W a ca) : ME X W (.BoolOp op [a] pos) ca := ⟨pe_one h.pe⟩
theorem me_and (ha : ME X W a ca) (hb : ME X W (.BoolOp .And (b :: rest) pos) cb) : ME X W (.BoolOp .And (a :: b :: rest) pos) (cAnd ca cb) := by
  refine ⟨(pe_andT ha.pe hb.pe).imp fun σ H Q h => ?_⟩
  obtain ⟨ρ, φ, S, hE, hs, h⟩ := h
  refine ⟨ρ, φ, S, hE, hs, h.step fun d S1 φ1 H1 v q l s r z => ?_⟩
  have z' : Ok X.K X.mg (Rel X.K) φ1 H1 (fun cls d H' => W cls d σ H') Q ((tru d S1).bind fun k _ => if k = true then cb ρ S1 else .ok d S1) := by
    revert z
    cases e : tru d S1 with
    | ok k S2 => cases tru_keeps e; exact id
    | err x S2 => exact id
    | bad => exact id
  obtain ⟨k, hk, z2⟩ := Ok.tru s r z'
  refine ⟨k, hk, ?_⟩
  cases k with
  | true =>
    simp only [if_true] at z2 ⊢
    exact ⟨ρ, φ1, S1, hE.mono l, s, z2⟩
  | false =>
    simp only [Bool.false_eq_true, if_false] at z2 ⊢
    exact z2 φ1 H1 v (Le.refl _ _) s r
theorem me_or (ha : ME X W a ca) (hb : ME X W (.BoolOp .Or (b :: rest) pos) cb) : ME X W (.BoolOp .Or (a :: b :: rest) pos) (cOr ca cb) := by
  refine ⟨(pe_orT ha.pe hb.pe).imp fun σ H Q h => ?_⟩
  obtain ⟨ρ, φ, S, hE, hs, h⟩ := h
  refine ⟨ρ, φ, S, hE, hs, h.step fun d S1 φ1 H1 v q l s r z => ?_⟩
  have z' : Ok X.K X.mg (Rel X.K) φ1 H1 (fun cls d H' => W cls d σ H') Q ((tru d S1).bind fun k _ => if k = true then .ok d S1 else cb ρ S1) := by
    revert z
    cases e : tru d S1 with
    | ok k S2 => cases tru_keeps e; exact id
    | err x S2 => exact id
    | bad => exact id
  obtain ⟨k, hk, z2⟩ := Ok.tru s r z'
  refine ⟨k, hk, ?_⟩
  cases k with
  | true =>
    simp only [if_true] at z2 ⊢
    exact z2 φ1 H1 v (Le.refl _ _) s r
  | false =>
    simp only [Bool.false_eq_true, if_false] at z2 ⊢
    exact ⟨ρ, φ1, S1, hE.mono l, s, z2⟩
theorem me_not (ha : ME X W a ca) : ME X W (.UnaryOp .Not a pos) (cNot ca) := by
  refine ⟨(pe_notT ha.pe).imp fun σ H Q h => ?_⟩
  obtain ⟨ρ, φ, S, hE, hs, h⟩ := h
  refine ⟨ρ, φ, S, hE, hs, h.step fun d S1 φ1 H1 v q l s r z => ?_⟩
  have z' : Ok X.K X.mg (Rel X.K) φ1 H1 (fun cls d H' => W cls d σ H') Q ((tru d S1).bind fun k _ => .ok (.bl (!k)) S1) := by
    revert z
    cases e : tru d S1 with
    | ok k S2 => cases tru_keeps e; exact id
    | err x S2 => exact id
    | bad => exact id
  obtain ⟨k, hk, z2⟩ := Ok.tru s r z'
  exact ⟨k, hk, z2 φ1 H1 _ (Le.refl _ _) s (.bl _)⟩
/-! ### x if t else y -/
def cIf (t : CT) (a b : C) : C := fun ρ S => (t ρ S).bind fun k S => if k = true then a ρ S else b ρ S
theorem me_if {t : CT} (hc : MT X W c t) (ha : ME X W a ca) (hb : ME X W b cb) : ME X W (.IfExp c a b pos) (cIf t ca cb) := by
  refine ⟨(pe_ifExp hc.pt ha.pe hb.pe).imp fun σ H Q h => ?_⟩
  obtain ⟨ρ, φ, S, hE, hs, h⟩ := h
  refine ⟨ρ, φ, S, hE, hs, h.step fun k S1 φ1 H1 v q l s r z => ?_⟩
  cases r
  cases k with
  | true =>
    simp only [if_true] at z ⊢
    exact ⟨ρ, φ1, S1, hE.mono l, s, z⟩
  | false =>
    simp only [Bool.false_eq_true, if_false] at z ⊢
    exact ⟨ρ, φ1, S1, hE.mono l, s, z⟩
/-! ### a < b < c -/
def cChain (g g' : G2) (a b c : C) : C := fun ρ S => (a ρ S).bind fun x S => (b ρ S).bind fun y S => (g x y S).bind fun k S => match k with
  | .bl true => (c ρ S).bind fun z S => g' y z S
  | .bl false => .ok (.bl false) S
  | _ => .bad
end
end MP

/-! MP: statements, loops, calls, defs. -/
namespace MP
open PySem PySem.Spec PyProof.Rows L2

/-! ### statements -/
inductive RSt where
  | nx (ρ : Ro) (S : Sto)
  | ret (d : D) (S : Sto)
  | brk (ρ : Ro) (S : Sto)
  | cnt (ρ : Ro) (S : Sto)
  | err (x : Exn) (ρ : Ro) (S : Sto)
  | bad
abbrev CS := Ro → Sto → RSt
section
variable (K : PySem.W.Frag) (mg : Str → Option Value)
def OkS (φ : Phi) (H : Hp) (W : WX) (D' : Ends) : RSt → Prop
  | .nx ρ S => ∀ φ' H' σ', Le φ H φ' H' → RS K φ' H' S → RE K φ' H' ρ σ' → D'.nx σ' H'
  | .ret d S => ∀ φ' H' v, Le φ H φ' H' → RS K φ' H' S → Rel K φ' H' d v → D'.rt v H'
  | .brk ρ S => ∀ φ' H' σ', Le φ H φ' H' → RS K φ' H' S → RE K φ' H' ρ σ' → D'.bk σ' H'
  | .cnt ρ S => ∀ φ' H' σ', Le φ H φ' H' → RS K φ' H' S → RE K φ' H' ρ σ' → D'.ct σ' H'
  | .err x ρ S => ∀ φ' H' σ' cls dx, Le φ H φ' H' → RS K φ' H' S → RE K φ' H' ρ σ' → RX K mg φ' H' x cls dx → W cls dx σ' H'
  | .bad => False
end
theorem OkS.later {K : PySem.W.Frag} {mg : Str → Option Value} {φ φ' : Phi} {H H' : Hp} {W : WX} {D' : Ends} {r : RSt} (e : Le φ H φ' H') (h : OkS K mg φ H W D' r) : OkS K mg φ' H' W D' r := by
  cases r with
  | nx ρ S => exact fun p q s l => h p q s (e.trans l)
  | ret d S => exact fun p q s l => h p q s (e.trans l)
  | brk ρ S => exact fun p q s l => h p q s (e.trans l)
  | cnt ρ S => exact fun p q s l => h p q s (e.trans l)
  | err x ρ S => exact fun p q s c d l => h p q s c d (e.trans l)
  | bad => exact h
def rdS (X : Cx) (W : WX) (c : CS) : TS := fun D' σ H => ∃ ρ φ S, RE X.K φ H ρ σ ∧ RS X.K φ H S ∧ OkS X.K X.mg φ H W D' (c ρ S)
structure MS (X : Cx) (W : WX) (st : Stmt) (c : CS) : Prop where
  ps : PS X st (rdS X W c)
structure MSs (X : Cx) (W : WX) (st : List Stmt) (c : CS) : Prop where
  ps : PSs X st (rdS X W c)
theorem _root_.L2.PS.imp {X : Cx} {st : Stmt} {t u : TS} (h : PS X st t) (k : ∀ D σ H, u D σ H → t D σ H) : PS X st u := ⟨fun pins s σ H D I z => h.run pins s σ H D I (k D σ H z)⟩
theorem _root_.L2.PSs.imp {X : Cx} {st : List Stmt} {t u : TS} (h : PSs X st t) (k : ∀ D σ H, u D σ H → t D σ H) : PSs X st u := ⟨fun pins s σ H D I z => h.run pins s σ H D I (k D σ H z)⟩

/-- an expression's result, then a statement's end -/
def RSt.of {α : Type} (ρ : Ro) (r : R α) (f : α → Sto → RSt) : RSt := match r with
  | .ok a S => f a S
  | .err x S => .err x ρ S
  | .bad => .bad
@[simp] theorem RSt.of_ok {α : Type} (ρ : Ro) (a : α) (S : Sto) (f : α → Sto → RSt) : RSt.of ρ (.ok a S) f = f a S := (rfl)
@[simp] theorem RSt.of_err {α : Type} (ρ : Ro) (x : Exn) (S : Sto) (f : α → Sto → RSt) : RSt.of ρ (.err x S : R α) f = .err x ρ S := (rfl)
@[simp] theorem RSt.of_bad {α : Type} (ρ : Ro) (f : α → Sto → RSt) : RSt.of ρ (.bad : R α) f = .bad := (rfl)
/-- the next statement -/
def RSt.andThen (r : RSt) (f : Ro → Sto → RSt) : RSt := match r with
  | .nx ρ S => f ρ S
  | .ret d S => .ret d S
  | .brk ρ S => .brk ρ S
  | .cnt ρ S => .cnt ρ S
  | .err x ρ S => .err x ρ S
  | .bad => .bad
@[simp] theorem RSt.andThen_nx (ρ : Ro) (S : Sto) (f : Ro → Sto → RSt) : (RSt.nx ρ S).andThen f = f ρ S := (rfl)
@[simp] theorem RSt.andThen_ret (d : D) (S : Sto) (f : Ro → Sto → RSt) : (RSt.ret d S).andThen f = .ret d S := (rfl)
@[simp] theorem RSt.andThen_brk (ρ : Ro) (S : Sto) (f : Ro → Sto → RSt) : (RSt.brk ρ S).andThen f = .brk ρ S := (rfl)
@[simp] theorem RSt.andThen_cnt (ρ : Ro) (S : Sto) (f : Ro → Sto → RSt) : (RSt.cnt ρ S).andThen f = .cnt ρ S := (rfl)
@[simp] theorem RSt.andThen_err (x : Exn) (ρ : Ro) (S : Sto) (f : Ro → Sto → RSt) : (RSt.err x ρ S).andThen f = .err x ρ S := (rfl)
@[simp] theorem RSt.andThen_bad (f : Ro → Sto → RSt) : RSt.bad.andThen f = .bad := (rfl)

section
variable {X : Cx} {W : WX} {α β : Type} {rel : Phi → Hp → α → β → Prop} {φ : Phi} {H : Hp} {ρ : Ro} {σ : L2.St} {D' : Ends}
/-- a statement that begins with an expression -/
theorem OkS.from {r : R α} {f : α → Sto → RSt} {Q : β → Hp → Prop} (he : RE X.K φ H ρ σ) (h : OkS X.K X.mg φ H W D' (.of ρ r f)) (k : ∀ d S φ1 H1 v, r = .ok d S → Le φ H φ1 H1 → RS X.K φ1 H1 S → rel φ1 H1 d v → OkS X.K X.mg φ1 H1 W D' (f d S) → Q v H1) :
    Ok X.K X.mg rel φ H (fun cls d H' => W cls d σ H') Q r := by
  cases r with
  | ok d S => exact fun φ1 H1 v l s q => k d S φ1 H1 v rfl l s q (OkS.later l h)
  | err x S => exact fun φ1 H1 c d l s q => h φ1 H1 σ c d l s (he.mono l) q
  | bad => exact h
end

def cNext : CS := fun ρ S => .nx ρ S
def cSeq (a b : CS) : CS := fun ρ S => (a ρ S).andThen b
section
variable {X : Cx} {W : WX} {st : Stmt} {rest : List Stmt} {pos : Pos} {e : Expr} {ce : C} {a b : CS}
theorem mss_nil : MSs X W [] cNext := ⟨pss_nil.imp fun D σ H h => by
  obtain ⟨ρ, φ, S, he, hs, h⟩ := h
  exact h φ H σ (Le.refl _ _) hs he⟩
theorem mss_cons (h1 : MS X W st a) (h2 : MSs X W rest b) : MSs X W (st :: rest) (cSeq a b) := by
  refine ⟨(pss_cons h1.ps h2.ps).imp fun D σ H h => ?_⟩
  obtain ⟨ρ, φ, S, he, hs, h⟩ := h
  refine ⟨ρ, φ, S, he, hs, ?_⟩
  unfold cSeq at h
  cases q : a ρ S with
  | nx ρ1 S1 =>
    rw [q] at h
    exact fun φ1 H1 σ1 l s re => ⟨ρ1, φ1, S1, re, s, OkS.later l h⟩
  | ret d S1 => rw [q] at h; exact h
  | brk ρ1 S1 => rw [q] at h; exact h
  | cnt ρ1 S1 => rw [q] at h; exact h
  | err x ρ1 S1 => rw [q] at h; exact h
  | bad => rw [q] at h; exact h
theorem mss_one (h1 : MS X W st a) : MSs X W [st] a := ⟨pss_one h1.ps⟩
theorem ms_pass : MS X W (.Pass pos) cNext := ⟨ps_pass.imp fun D σ H h => by
  obtain ⟨ρ, φ, S, he, hs, h⟩ := h
  exact h φ H σ (Le.refl _ _) hs he⟩
theorem ms_doc {x j pos'} : MS X W (.Expr (.Constant (.str x) j pos) pos') cNext := ⟨ps_doc.imp fun D σ H h => by
  obtain ⟨ρ, φ, S, he, hs, h⟩ := h
  exact h φ H σ (Le.refl _ _) hs he⟩
def cBrk : CS := fun ρ S => .brk ρ S
def cCnt : CS := fun ρ S => .cnt ρ S
theorem ms_brk : MS X W (.Break pos) cBrk := ⟨ps_break.imp fun D σ H h => by
  obtain ⟨ρ, φ, S, he, hs, h⟩ := h
  exact h φ H σ (Le.refl _ _) hs he⟩
theorem ms_cnt : MS X W (.Continue pos) cCnt := ⟨ps_continue.imp fun D σ H h => by
  obtain ⟨ρ, φ, S, he, hs, h⟩ := h
  exact h φ H σ (Le.refl _ _) hs he⟩
/-- an expression for what it does -/
def cDrop (c : C) : CS := fun ρ S => .of ρ (c ρ S) fun _ S => .nx ρ S
theorem ms_expr (he : ME X W e ce) (hs : swapsWith e none pos.line X.env = pure false := by rfl) : MS X W (.Expr e pos) (cDrop ce) := by
  refine ⟨(ps_expr he.pe hs).imp fun D σ H h => ?_⟩
  obtain ⟨ρ, φ, S, he, hs, h⟩ := h
  exact ⟨ρ, φ, S, he, hs, OkS.from he h fun d S1 φ1 H1 v q l s r z => z φ1 H1 σ (Le.refl _ _) s (he.mono l)⟩
def cRet (c : C) : CS := fun ρ S => .of ρ (c ρ S) fun d S => .ret d S
theorem ms_ret (he : ME X W e ce) : MS X W (.Return (some e) pos) (cRet ce) := by
  refine ⟨(ps_ret he.pe).imp fun D σ H h => ?_⟩
  obtain ⟨ρ, φ, S, he, hs, h⟩ := h
  exact ⟨ρ, φ, S, he, hs, OkS.from he h fun d S1 φ1 H1 v q l s r z => z φ1 H1 v (Le.refl _ _) s r⟩
def cRetN : CS := fun ρ S => .ret .non S
theorem ms_retN : MS X W (.Return none pos) cRetN := ⟨ps_retN.imp fun D σ H h => by
  obtain ⟨ρ, φ, S, he, hs, h⟩ := h
  exact h φ H .non (Le.refl _ _) hs .non⟩
def cIfS (t : CT) (a b : CS) : CS := fun ρ S => .of ρ (t ρ S) fun k S => if k = true then a ρ S else b ρ S
theorem ms_if {t : CT} {sa sb : List Stmt} (hc : MT X W e t) (ha : MSs X W sa a) (hb : MSs X W sb b) : MS X W (.If e sa sb pos) (cIfS t a b) := by
  refine ⟨(ps_if hc.pt ha.ps hb.ps).imp fun D σ H h => ?_⟩
  obtain ⟨ρ, φ, S, he, hs, h⟩ := h
  refine ⟨ρ, φ, S, he, hs, OkS.from he h fun k S1 φ1 H1 v q l s r z => ?_⟩
  cases r
  cases k with
  | true =>
    simp only [if_true] at z ⊢
    exact ⟨ρ, φ1, S1, he.mono l, s, z⟩
  | false =>
    simp only [Bool.false_eq_true, if_false] at z ⊢
    exact ⟨ρ, φ1, S1, he.mono l, s, z⟩
end

/-! ### targets -/
abbrev Tg := D → Ro → Option Ro
/-- only the slots sl are stored -/
def Only' (sl : List Nat) (σ σ' : L2.St) : Prop := ∀ vs : List Nat, (∀ i ∈ sl, i ∈ vs) → wipe σ' vs = wipe σ vs
structure GS (K : PySem.W.Frag) (g : TG) (t : Tg) (sl : List Nat) : Prop where
  go : ∀ φ H d v ρ ρ' σ Q, Rel K φ H d v → RE K φ H ρ σ → t d ρ = some ρ' → (∀ σ', RE K φ H ρ' σ' → Only' sl σ σ' → Q σ' H) → g v σ H Q
structure MG (X : Cx) (tg : Expr) (t : Tg) (sl : List Nat) : Prop where
  pg : ∃ g, PG X tg g ∧ GS X.K g t sl
def tgN (i : Nat) : Tg := fun d ρ => some (ρ.set i (some d))
def tgs : List Tg → List D → Ro → Option Ro
  | [], [], ρ => some ρ
  | t :: ts, d :: ds, ρ => match t d ρ with
    | some ρ' => tgs ts ds ρ'
    | none => none
  | _, _, _ => none
def tgT (ts : List Tg) : Tg := fun d ρ => match d with
  | .tup ds => tgs ts ds ρ
  | _ => none
structure GSs (K : PySem.W.Frag) (g : TGs) (ts : List Tg) (sl : List Nat) : Prop where
  go : ∀ φ H ds vs ρ ρ' σ Q, RelL K φ H ds vs → RE K φ H ρ σ → tgs ts ds ρ = some ρ' → (∀ σ', RE K φ H ρ' σ' → Only' sl σ σ' → Q σ' H) → g vs σ H Q
structure MGs (X : Cx) (es : List Expr) (ts : List Tg) (sl : List Nat) : Prop where
  pg : ∃ g, PGs X es g ∧ GSs X.K g ts sl
theorem tgs_len : ∀ {ts : List Tg} {ds : List D} {ρ ρ' : Ro}, tgs ts ds ρ = some ρ' → ds.length = ts.length
  | [], [], _, _, _ => rfl
  | t :: ts, d :: ds, ρ, ρ', h => by
    unfold tgs at h
    cases q : t d ρ with
    | none => simp only [q] at h; cases h
    | some r =>
      simp only [q] at h
      simp [tgs_len h]
  | [], _ :: _, _, _, h => by simp [tgs] at h
  | _ :: _, [], _, _, h => by simp [tgs] at h
theorem wipe_set : ∀ (vs : List Nat) (σ : L2.St) (i : Nat) (x : Option V), i ∈ vs → wipe (σ.set i x) vs = wipe σ vs := by
  intro vs
  induction vs with
  | nil => intro σ i x h; cases h
  | cons j vs ih =>
    intro σ i x h
    show (wipe (σ.set i x) vs).set j none = (wipe σ vs).set j none
    by_cases hi : i ∈ vs
    · rw [ih σ i x hi]
    · have e : i = j := by
        rcases List.mem_cons.mp h with e | e
        · exact e
        · exact absurd e hi
      subst e
      have out : ∀ (ws : List Nat) (σ : L2.St), i ∉ ws → wipe (σ.set i x) ws = (wipe σ ws).set i x := by
        intro ws
        induction ws with
        | nil => intro σ _; rfl
        | cons k ws ih2 =>
          intro σ hw
          show (wipe (σ.set i x) ws).set k none = ((wipe σ ws).set k none).set i x
          rw [ih2 σ (fun z => hw (List.mem_cons_of_mem _ z)), List.set_comm]
          intro z
          exact hw (by rw [z]; exact List.mem_cons_self)
      rw [out vs σ hi, List.set_set]
theorem wipe_idem (σ : L2.St) : ∀ vs : List Nat, wipe (wipe σ vs) vs = wipe σ vs := by
  have h : ∀ (ws vs : List Nat) (σ : L2.St), (∀ i ∈ ws, i ∈ vs) → wipe (wipe σ ws) vs = wipe σ vs := by
    intro ws
    induction ws with
    | nil => intro vs σ _; rfl
    | cons i ws ih =>
      intro vs σ hw
      show wipe ((wipe σ ws).set i none) vs = wipe σ vs
      rw [wipe_set vs _ i none (hw i List.mem_cons_self)]
      exact ih vs σ fun j hj => hw j (List.mem_cons_of_mem _ hj)
  exact fun vs => h vs vs σ fun _ z => z
section
variable {X : Cx} {pos : Pos}
theorem gs_name {K : PySem.W.Frag} (i : Nat) : GS K (gName i) (tgN i) [i] := ⟨fun φ H d v ρ ρ' σ Q r re e k => by
  cases e
  exact k _ (re.set r i) fun vs h => wipe_set vs σ i _ (h i List.mem_cons_self)⟩
theorem mg_name (i : Nat) {x : Str} (hN : X.N.Nodup) (hi : X.N[i]? = some x) (hx : Loc X.env.scope x) (hf : X.fn x = true ∨ X.env.scope.names.lookup x = some .local := by first | exact .inl rfl | exact .inr rfl | assumption) : MG X (.Name x pos) (tgN i) [i] :=
  ⟨gName i, pg_name hN hi hx hf, gs_name i⟩
theorem gss_nil {K : PySem.W.Frag} : GSs K gNil [] [] := ⟨fun φ H ds vs ρ ρ' σ Q r re e k => by
  cases r with
  | nil =>
    simp [tgs] at e
    subst e
    exact ⟨rfl, k σ re fun _ _ => rfl⟩
  | cons _ _ => simp [tgs] at e⟩
theorem gss_cons {K : PySem.W.Frag} {g : TG} {gs : TGs} {t : Tg} {ts : List Tg} {s1 s2 : List Nat} (h1 : GS K g t s1) (h2 : GSs K gs ts s2) : GSs K (gCons g gs) (t :: ts) (s1 ++ s2) := ⟨fun φ H ds vs ρ ρ' σ Q r re e k => by
  cases r with
  | nil => simp [tgs] at e
  | cons r rs =>
    rename_i d v ds vs
    unfold tgs at e
    cases q : t d ρ with
    | none => simp only [q] at e; cases e
    | some ρ1 =>
      simp only [q] at e
      exact ⟨v, vs, rfl, h1.go φ H d v ρ ρ1 σ _ r re q fun σ1 re1 o1 => h2.go φ H ds vs ρ1 ρ' σ1 _ rs re1 e fun σ2 re2 o2 => k σ2 re2 fun ws hw =>
        (o2 ws fun i hi => hw i (List.mem_append_right _ hi)).trans (o1 ws fun i hi => hw i (List.mem_append_left _ hi))⟩⟩
theorem mgs_nil : MGs X [] [] [] := ⟨gNil, pgs_nil, gss_nil⟩
theorem mgs_cons {e : Expr} {es : List Expr} {t : Tg} {ts : List Tg} {s1 s2 : List Nat} (h1 : MG X e t s1) (h2 : MGs X es ts s2)
    (hs : (assignEach (e :: es) X.env).map (·.2) = assign e X.env :: (assignEach es X.env).map (·.2) := by rfl) : MGs X (e :: es) (t :: ts) (s1 ++ s2) := by
  obtain ⟨g, p1, q1⟩ := h1.pg
  obtain ⟨gs, p2, q2⟩ := h2.pg
  exact ⟨_, pgs_cons p1 p2 hs, gss_cons q1 q2⟩
theorem mg_tup {es : List Expr} {k : Nat} {ts : List Tg} {sl : List Nat} (hc : X.calm = true) (h : MGs X es ts sl) (hl : (assignEach es X.env).length = ts.length := by rfl) (hst : (assignEach es X.env).findIdx? (·.1) = none := by rfl) : MG X (.Tuple es k pos) (tgT ts) sl := by
  obtain ⟨g, p, q⟩ := h.pg
  refine ⟨_, pg_tup (n := ts.length) hc p hl hst, ⟨fun φ H d v ρ ρ' σ Q r re e k => ?_⟩⟩
  cases r <;> try (simp [tgT] at e; done)
  rename_i a vs ds z f rs
  have e : tgs ts ds ρ = some ρ' := e
  exact ⟨a, vs, rfl, f.sq, by rw [← rs.length]; exact tgs_len e, q.go φ H ds vs ρ ρ' σ Q rs re e k⟩
end
def tgR (t : Tg) (d : D) (ρ : Ro) (f : Ro → RSt) : RSt := match t d ρ with
  | some ρ' => f ρ'
  | none => .bad
@[simp] theorem tgR_name (i : Nat) (d : D) (ρ : Ro) (f : Ro → RSt) : tgR (tgN i) d ρ f = f (ρ.set i (some d)) := (rfl)
/-! ### assignments -/
def cAsg (t : Tg) (c : C) : CS := fun ρ S => .of ρ (c ρ S) fun d S => tgR t d ρ fun ρ' => .nx ρ' S
section
variable {X : Cx} {W : WX} {pos : Pos} {e : Expr} {ce : C}
theorem asg_imp {te : TE} {g : TG} {t : Tg} {sl : List Nat} (hg : GS X.K g t sl) {D' : Ends} {σ : L2.St} {H : Hp} (h : rdS X W (cAsg t ce) D' σ H) : tAsg (rdE X W ce) g D' σ H := by
  obtain ⟨ρ, φ, S, he, hs, h⟩ := h
  refine ⟨ρ, φ, S, he, hs, OkS.from he h fun d S1 φ1 H1 v q l s r z => ?_⟩
  unfold tgR at z
  cases q2 : t d ρ with
  | none => simp only [q2] at z; exact z.elim
  | some ρ' =>
    simp only [q2] at z
    exact hg.go φ1 H1 d v ρ ρ' σ _ r (he.mono l) q2 fun σ' re _ => z φ1 H1 σ' (Le.refl _ _) s re
theorem ms_set (i : Nat) {x : Str} {pos' : Pos} (hN : X.N.Nodup) (hi : X.N[i]? = some x) (hx : Loc X.env.scope x) (he : ME X W e ce) (hs : swapsWith e (some (.Name x pos')) pos.line X.env = pure false := by rfl) (hf : X.fn x = true ∨ X.env.scope.names.lookup x = some .local := by first | exact .inl rfl | exact .inr rfl | assumption) :
    MS X W (.Assign [.Name x pos'] e pos) (cAsg (tgN i) ce) :=
  ⟨(ps_set hN hi hx he.pe hs hf).imp fun D σ H h => asg_imp (te := rdE X W ce) (gs_name i) h⟩
theorem ms_asg {tg : Expr} {t : Tg} {sl : List Nat} (he : ME X W e ce) (hg : MG X tg t sl) (hs : swapsWithSole [tg] e pos.line X.env = pure false := by rfl) (hw : swappedStores [tg] e X.env = pure none := by rfl)
    (h1 : (assignEach [tg] X.env).map (·.2) = [assign tg X.env] := by rfl) : MS X W (.Assign [tg] e pos) (cAsg t ce) := by
  obtain ⟨g, p, q⟩ := hg.pg
  exact ⟨(ps_asg he.pe p hs hw h1).imp fun D σ H h => asg_imp (te := rdE X W ce) q h⟩
/-- a, b = x, y of plain locals -/
def cPar (is : List Nat) (c : CA) : CS := fun ρ S => .of ρ (c ρ S) fun ds S => match tgs (is.map tgN) ds ρ with
  | some ρ' => .nx ρ' S
  | none => .bad
theorem ms_par {i j : Nat} {x y : Str} {a b : Expr} {ca : CA} {px py pt : Pos} {kt k2 pt2} (hc : X.calm = true) (hN : X.N.Nodup) (hi : X.N[i]? = some x) (hj : X.N[j]? = some y) (hij : i ≠ j)
    (hx : X.env.scope.names.lookup x = some .local) (hy : X.env.scope.names.lookup y = some .local) (ha : MA X W [a, b] ca)
    (hw : swappedStores [.Tuple [.Name x px, .Name y py] kt pt] (.Tuple [a, b] k2 pt2) X.env = pure (some [x, y]))
    (hs : swapsWithSole [.Tuple [.Name x px, .Name y py] kt pt] (.Tuple [a, b] k2 pt2) pos.line X.env = pure false := by rfl) :
    MS X W (.Assign [.Tuple [.Name x px, .Name y py] kt pt] (.Tuple [a, b] k2 pt2) pos) (cPar [i, j] ca) := by
  refine ⟨(ps_par hc hN hi hj hij hx hy ha.pa hw hs).imp fun D σ H h => ?_⟩
  obtain ⟨ρ, φ, S, he, hs, h⟩ := h
  refine ⟨ρ, φ, S, he, hs, OkS.from he h fun ds S1 φ1 H1 vs q l s r z => ?_⟩
  cases r with
  | nil => exact z.elim
  | cons r1 r =>
    cases r with
    | nil => exact z.elim
    | cons r2 r =>
      cases r with
      | cons _ _ => exact z.elim
      | nil => exact ⟨_, _, rfl, z φ1 H1 _ (Le.refl _ _) s (((he.mono l).set r1 i).set r2 j)⟩
theorem ms_par3 {i j k : Nat} {x y z : Str} {a b c : Expr} {ca : CA} {px py pz pt : Pos} {kt k2 pt2} (hc : X.calm = true) (hN : X.N.Nodup) (hi : X.N[i]? = some x) (hj : X.N[j]? = some y) (hk : X.N[k]? = some z) (hij : i ≠ j) (hik : i ≠ k) (hjk : j ≠ k)
    (h : PS X (.Assign [.Tuple [.Name x px, .Name y py, .Name z pz] kt pt] (.Tuple [a, b, c] k2 pt2) pos) (tPar3 i j k (rdA X W ca))) :
    MS X W (.Assign [.Tuple [.Name x px, .Name y py, .Name z pz] kt pt] (.Tuple [a, b, c] k2 pt2) pos) (cPar [i, j, k] ca) := by
  refine ⟨h.imp fun D σ H h => ?_⟩
  obtain ⟨ρ, φ, S, he, hs, h⟩ := h
  refine ⟨ρ, φ, S, he, hs, OkS.from he h fun ds S1 φ1 H1 vs q l s r z => ?_⟩
  cases r with
  | nil => exact z.elim
  | cons r1 r =>
    cases r with
    | nil => exact z.elim
    | cons r2 r =>
      cases r with
      | nil => exact z.elim
      | cons r3 r =>
        cases r with
        | cons _ _ => exact z.elim
        | nil => exact ⟨_, _, _, rfl, z φ1 H1 _ (Le.refl _ _) s ((((he.mono l).set r1 i).set r2 j).set r3 k)⟩
/-- x op= e -/
def cAug (i : Nat) (g : G2) (c : C) : CS := fun ρ S => match ρ[i]? with
  | some (some x) => .of ρ (c ρ S) fun y S => .of ρ (g x y S) fun z S => .nx (ρ.set i (some z)) S
  | _ => .bad
theorem ms_aug (i : Nat) {x : Str} {op : Operator} {g : G2} {pos' : Pos} (ho : OS X (inplaceOp op) g) (hN : X.N.Nodup) (hi : X.N[i]? = some x) (hx : Loc X.env.scope x) (he : ME X W e ce) (hf : X.fn x = true ∨ X.env.scope.names.lookup x = some .local := by first | exact .inl rfl | exact .inr rfl | assumption) :
    MS X W (.AugAssign (.Name x pos') op e pos) (cAug i g ce) := by
  obtain ⟨r, hr, k⟩ := ho
  refine ⟨(ps_aug (ti := r) hN hi hx he.pe (fun pins s σ H x y v u Q I rx ry h => hr pins s σ H x y v u Q I rx ry h) hf).imp fun D σ H h => ?_⟩
  obtain ⟨ρ, φ, S, he, hs, h⟩ := h
  unfold cAug at h
  split at h
  · rename_i d q
    obtain ⟨v, e1, rv⟩ := he.2 i d q
    refine ⟨v, e1, ρ, φ, S, he, hs, OkS.from he h fun y S1 φ1 H1 vy q2 l s ry z => ?_⟩
    refine k W σ φ1 H1 S1 d y v vy _ s (rv.mono l) ry (OkS.from (he.mono l) z fun w S2 φ2 H2 vw q3 l2 s2 rw' z2 => ?_)
    exact z2 φ2 H2 _ (Le.refl _ _) s2 (((he.mono l).mono l2).set rw' i)
  · exact h.elim
end
end MP

/-! MP: what is walked, for, while, comprehensions. -/
namespace MP
open PySem PySem.Spec PyProof.Rows L2

/-! ### what is walked -/
structure IR (K : PySem.W.Frag) (φ : Phi) (H : Hp) (ds : List D) (J : It) : Prop where
  go : ∀ φ' H', Le φ H φ' H' → ∀ i, i < ds.length → J.go i H'
  yld : ∀ φ' H' S', Le φ H φ' H' → RS K φ' H' S' → ∀ i d x H'', ds[i]? = some d → J.yld i H' x H'' → Le φ' H' φ' H'' ∧ RS K φ' H'' S' ∧ Rel K φ' H'' d x
  stop : ∀ φ' H', Le φ H φ' H' → J.stop ds.length H'
abbrev CI := Ro → Sto → R (List D)
def rdI (X : Cx) (W : WX) (c : CI) : TI := fun σ H Q => ∃ ρ φ S, RE X.K φ H ρ σ ∧ RS X.K φ H S ∧ Ok X.K X.mg (IR X.K) φ H (fun cls d H' => W cls d σ H') Q (c ρ S)
structure MI (X : Cx) (W : WX) (tg iter : Expr) (c : CI) : Prop where
  pi : PI X tg iter (rdI X W c)
theorem _root_.L2.PI.imp {X : Cx} {tg iter : Expr} {t u : TI} (h : PI X tg iter t) (k : ∀ σ H Q, u σ H Q → t σ H Q) : PI X tg iter u := ⟨fun pins s σ H Q I z => h.run pins s σ H Q I (k σ H Q z)⟩
section
variable {K : PySem.W.Frag} {φ : Phi} {H : Hp} {a : Addr} {vs : List V} {ds : List D} {X : Cx}
/-- a list that is never changed any more is the same later -/
theorem FR.later {φ' : Phi} {H' : Hp} (e : Le φ H φ' H') (h : FR K φ H a vs) : FR K φ' H' a vs := by
  rcases h with ⟨f, w⟩ | f
  · exact .inl (e.rd f w)
  · exact .inr f
theorem FT.later {φ' : Phi} {H' : Hp} (e : Le φ H φ' H') (h : FT K φ H a vs) : FT K φ' H' a vs := by
  rcases h with ⟨f, w⟩ | f
  · exact .inl (e.rd f w)
  · exact .inr f
theorem ir_list (h : FR K φ H a vs) (r : RelL K φ H ds vs) : IR K φ H ds (Itl K a) where
  go := fun φ' H' e i hi => by
    obtain ⟨x, hx⟩ : ∃ x, vs[i]? = some x := ⟨vs[i]'(by rw [← r.length]; exact hi), by simp⟩
    exact ⟨vs, x, (h.later e).sq, hx⟩
  yld := fun φ' H' S' e s i d x H'' hd y => by
    obtain ⟨e1, y⟩ := y
    subst e1
    obtain ⟨v, hv, rv⟩ := r.get hd
    have := y vs (h.later e).sq
    rw [hv] at this
    cases this
    exact ⟨Le.refl _ _, s, rv.mono e⟩
  stop := fun φ' H' e => ⟨vs, (h.later e).sq, by rw [r.length]; exact Nat.le_refl _⟩
theorem ir_tup (h : FT K φ H a vs) (r : RelL K φ H ds vs) : IR K φ H ds (Itt K a) where
  go := fun φ' H' e i hi => by
    obtain ⟨x, hx⟩ : ∃ x, vs[i]? = some x := ⟨vs[i]'(by rw [← r.length]; exact hi), by simp⟩
    exact ⟨vs, x, (h.later e).sq, hx⟩
  yld := fun φ' H' S' e s i d x H'' hd y => by
    obtain ⟨e1, y⟩ := y
    subst e1
    obtain ⟨v, hv, rv⟩ := r.get hd
    have := y vs (h.later e).sq
    rw [hv] at this
    cases this
    exact ⟨Le.refl _ _, s, rv.mono e⟩
  stop := fun φ' H' e => ⟨vs, (h.later e).sq, by rw [r.length]; exact Nat.le_refl _⟩
def rngD (lo : Int) (n : Nat) : List D := (List.range n).map fun (k : Nat) => D.int (lo + (k : Int))
theorem rngD_length (lo : Int) (n : Nat) : (rngD lo n).length = n := by simp [rngD]
theorem ir_rng (lo : Int) (n : Nat) : IR K φ H (rngD lo n) (Itr lo n) where
  go := fun φ' H' e i hi => by rw [rngD_length] at hi; exact hi
  yld := fun φ' H' S' e s i d x H'' hd y => by
    obtain ⟨e1, e2⟩ := y
    subst e1 e2
    have : d = .int (lo + (i : Int)) := by
      have hi := (List.getElem?_eq_some_iff.mp hd).1
      rw [rngD_length] at hi
      simp [rngD, List.getElem?_range hi] at hd
      exact hd.symm
    subst this
    exact ⟨Le.refl _ _, s, .int _⟩
  stop := fun φ' H' e => by rw [rngD_length]; exact Nat.le_refl _
end
section
variable {X : Cx} {tg : Expr}
/-- a list or a tuple -/
theorem pi_either {l : Expr} {tl : TE} (hl : PE X l tl) : PI X tg l (fun σ H R => tl σ H fun x H1 => ∃ a, x = .ref a ∧ (((∃ xs, SqL X.K H1 a xs) ∧ R (Itl X.K a) H1) ∨ ((∃ xs, SqT X.K H1 a xs) ∧ R (Itt X.K a) H1))) := by
  constructor
  intro pins s σ H R I h
  refine thn (hl.run pins s σ H _ I h) ?_
  rintro v s1 ⟨x, H1, I1, r1, a, rfl, q⟩
  cases r1
  have fp : ∀ b, b ∈ [s1.heap.objs.size] → FpOk X pins H1 b := by
    intro b hb
    have e : b = s1.heap.objs.size := by simpa using hb
    rw [e]
    exact I1.fpOk (Nat.le_refl _) I1.fresh
  rcases q with ⟨⟨xs, hq⟩, q⟩ | ⟨⟨xs, hq⟩, q⟩
  · obtain ⟨its, rv, p, hz⟩ := I1.list hq
    refine wpAny_pyIter_list p.isList ?_
    have J1 := I1.kept (h' := s1.heap.push { cls := .type "list_iterator", data := .fields #[.ref a, rawInt 0] }) (t' := s1.toks) fun b o e => Heap.get?_push_of_some _ e
    exact ⟨_, _, _, _, H1, rfl, J1, turn_list a _, ⟨_, Heap.get?_push_size _ rfl, rfl, rfl⟩, fp, q⟩
  · obtain ⟨its, rv, p, hz⟩ := I1.tuple hq
    have p' : s1.heap.IsTuple a its.toArray := p
    refine wpAny_pyIter_tuple p' ?_
    have J1 := I1.kept (h' := s1.heap.push { cls := .type "tuple_iterator", data := .fields #[.ref a, rawInt 0] }) (t' := s1.toks) fun b o e => Heap.get?_push_of_some _ e
    exact ⟨_, _, _, _, H1, rfl, J1, turn_tuple a _, ⟨_, Heap.get?_push_size _ rfl, rfl, rfl⟩, fp, q⟩
end
/-- the items of a list or tuple -/
def ciSeq (c : C) : CI := fun ρ S => (c ρ S).bind fun d S => match d with
  | .tup ds => .ok ds S
  | .lst ds => .ok ds S
  | .rol ds => .ok ds S
  | _ => .bad
def ciR1 (a : CA) : CI := fun ρ S => (a ρ S).bind fun ds S => match ds with
  | [.int n] => if -16000000 ≤ n ∧ n ≤ 16000000 then .ok (rngD 0 n.toNat) S else .bad
  | _ => .bad
def ciR2 (a : CA) : CI := fun ρ S => (a ρ S).bind fun ds S => match ds with
  | [.int m, .int n] => if -16000000 ≤ m ∧ m ≤ 16000000 ∧ -16000000 ≤ n ∧ n ≤ 16000000 then .ok (rngD m (n - m).toNat) S else .bad
  | _ => .bad
section
variable {X : Cx} {W : WX} {tg e a b : Expr} {ce : C} {ca : CA} {p pos : Pos}
theorem mi_seq (he : ME X W e ce) : MI X W tg e (ciSeq ce) := by
  refine ⟨(pi_either he.pe).imp fun σ H Q h => ?_⟩
  obtain ⟨ρ, φ, S, hE, hs, h⟩ := h
  refine ⟨ρ, φ, S, hE, hs, h.step fun d S1 φ1 H1 v q l s r z => ?_⟩
  cases r <;> try exact z.elim
  · rename_i a vs ds zz f rr
    exact ⟨a, rfl, .inr ⟨⟨vs, f.sq⟩, z φ1 H1 _ (Le.refl _ _) s (ir_tup f rr)⟩⟩
  · rename_i a vs ds zz f w rr
    exact ⟨a, rfl, .inl ⟨⟨vs, SqL.of f⟩, z φ1 H1 _ (Le.refl _ _) s (ir_list (.inl ⟨.inl f, w⟩) rr)⟩⟩
  · rename_i a vs ds zz f rr
    exact ⟨a, rfl, .inl ⟨⟨vs, f.sq⟩, z φ1 H1 _ (Le.refl _ _) s (ir_list f rr)⟩⟩
theorem p62 : (16000000 : Int) < 2 ^ 62 := by decide
theorem mi_r1 (hg : Gl X "range") (hm : X.mg "range" = none) (ha : MA X W [a] ca) (hs : starEach [a] X.env = [(false, eval a X.env)] := by rfl) : MI X W tg (.Call (.Name "range" p) [a] [] pos) (ciR1 ca) := by
  refine ⟨(pi_range1 hg hm ha.pa hs).imp fun σ H Q h => ?_⟩
  obtain ⟨ρ, φ, S, hE, hs, h⟩ := h
  refine ⟨ρ, φ, S, hE, hs, h.step fun ds S1 φ1 H1 vs q l s r z => ?_⟩
  have p62 := p62
  cases r with
  | nil => exact z.elim
  | cons r1 r =>
    cases r with
    | cons _ _ => cases r1 <;> exact z.elim
    | nil =>
      cases r1 <;> try exact z.elim
      rename_i n
      by_cases hn : -16000000 ≤ n ∧ n ≤ 16000000
      · simp only [hn, and_self, if_true] at z
        exact ⟨n, rfl, by omega, by omega, z φ1 H1 _ (Le.refl _ _) s (ir_rng 0 n.toNat)⟩
      · simp only [hn, if_false] at z
        exact z.elim
theorem mi_r2 (hg : Gl X "range") (hm : X.mg "range" = none) (ha : MA X W [a, b] ca) (hs : starEach [a, b] X.env = [(false, eval a X.env), (false, eval b X.env)] := by rfl) (hs2 : starEach [b] X.env = [(false, eval b X.env)] := by rfl) : MI X W tg (.Call (.Name "range" p) [a, b] [] pos) (ciR2 ca) := by
  refine ⟨(pi_range2 hg hm ha.pa hs hs2).imp fun σ H Q h => ?_⟩
  obtain ⟨ρ, φ, S, hE, hs, h⟩ := h
  refine ⟨ρ, φ, S, hE, hs, h.step fun ds S1 φ1 H1 vs q l s r z => ?_⟩
  have p62 := p62
  cases r with
  | nil => exact z.elim
  | cons r1 r =>
    cases r with
    | nil => cases r1 <;> exact z.elim
    | cons r2 r =>
      cases r with
      | cons _ _ => cases r1 <;> cases r2 <;> exact z.elim
      | nil =>
        cases r1 <;> try exact z.elim
        cases r2 <;> try exact z.elim
        rename_i m n
        by_cases hn : -16000000 ≤ m ∧ m ≤ 16000000 ∧ -16000000 ≤ n ∧ n ≤ 16000000
        · simp only [hn, and_self, if_true] at z
          exact ⟨m, n, rfl, ⟨by omega, by omega, by omega, by omega⟩, z φ1 H1 _ (Le.refl _ _) s (ir_rng m (n - m).toNat)⟩
        · simp only [hn, if_false] at z
          exact z.elim
end

/-! ### for -/
def forL (t : Tg) (body : CS) : List D → CS
  | [], ρ, S => .nx ρ S
  | d :: ds, ρ, S => tgR t d ρ fun ρ1 => match body ρ1 S with
    | .nx ρ2 S2 => forL t body ds ρ2 S2
    | .cnt ρ2 S2 => forL t body ds ρ2 S2
    | .brk ρ2 S2 => .nx ρ2 S2
    | .ret d S2 => .ret d S2
    | .err x ρ2 S2 => .err x ρ2 S2
    | .bad => .bad
def cFor (ci : CI) (t : Tg) (body : CS) : CS := fun ρ S => .of ρ (ci ρ S) fun ds S => forL t body ds ρ S
theorem ms_for {X : Cx} {W : WX} {tg iter : Expr} {body : List Stmt} {ci : CI} {t : Tg} {sl : List Nat} {cb : CS} {pos : Pos} (hp : PassesOwn (model X.prog X.w) X.A X.env X.xe) (hc : X.calm = true) (hi : MI X W tg iter ci) (hg : MG X tg t sl) (hb : MSs X W body cb)
    (hs : ∀ x, foldedSetIterable iter X.env x = pure x := by intro _; rfl) : MS X W (.For tg iter body [] pos) (cFor ci t cb) := by
  obtain ⟨g, pg, gs⟩ := hg.pg
  refine ⟨(ps_for hp hc hi.pi pg hb.ps hs).imp fun D' σ H h => ?_⟩
  obtain ⟨ρ, φ, S, hE, hs, h⟩ := h
  refine ⟨ρ, φ, S, hE, hs, OkS.from hE h fun ds S1 φ1 H1 J q l s ir z => ?_⟩
  refine ⟨fun i m σ H => i + m = ds.length ∧ ∃ ρ φ S, Le φ1 H1 φ H ∧ RE X.K φ H ρ σ ∧ RS X.K φ H S ∧ OkS X.K X.mg φ H W D' (forL t cb (ds.drop i) ρ S), ⟨ds.length, by omega, ρ, φ1, S1, Le.refl _ _, hE.mono l, s, z⟩, ?_⟩
  rintro i m σ H ⟨e, ρ, φ, S, l2, hE, hs, h⟩
  by_cases hi : i < ds.length
  · refine .inr ⟨ir.go φ H l2 i hi, fun σ' H' => ∃ ρ φ S, Le φ1 H1 φ H' ∧ RE X.K φ H' ρ σ' ∧ RS X.K φ H' S ∧ OkS X.K X.mg φ H' W D' (forL t cb (ds.drop (i + 1)) ρ S), fun σ' H' n => ⟨m - 1, by omega, by omega, n⟩, fun x H' y => ?_⟩
    obtain ⟨l3, s3, rx⟩ := ir.yld φ H S l2 hs i ds[i] x H' (by simp [hi]) y
    have h := OkS.later l3 h
    rw [List.drop_eq_getElem_cons hi] at h
    unfold forL tgR at h
    cases q3 : t ds[i] ρ with
    | none => simp only [q3] at h; exact h.elim
    | some ρ1 =>
      simp only [q3] at h
      refine gs.go φ H' _ x ρ ρ1 σ _ rx (hE.mono l3) q3 fun σ1 re1 _ => ⟨ρ1, φ, S, re1, s3, ?_⟩
      cases q4 : cb ρ1 S with
      | nx ρ2 S2 =>
        simp only [q4] at h
        exact fun φ4 H4 σ4 l4 s4 re4 => ⟨ρ2, φ4, S2, (l2.trans l3).trans l4, re4, s4, OkS.later l4 h⟩
      | cnt ρ2 S2 =>
        simp only [q4] at h
        exact fun φ4 H4 σ4 l4 s4 re4 => ⟨ρ2, φ4, S2, (l2.trans l3).trans l4, re4, s4, OkS.later l4 h⟩
      | brk ρ2 S2 => simp only [q4] at h; exact h
      | ret d S2 => simp only [q4] at h; exact h
      | err x ρ2 S2 => simp only [q4] at h; exact h
      | bad => simp only [q4] at h; exact h
  · have e2 : i = ds.length := by omega
    subst e2
    rw [List.drop_length] at h
    exact .inl ⟨ir.stop φ H l2, h φ H σ (Le.refl _ _) hs hE⟩

/-! ### while -/
def whileN (t : CT) (body : CS) : Nat → Ro → Sto → Option RSt
  | 0, _, _ => none
  | n + 1, ρ, S => match t ρ S with
    | .ok true S1 => match body ρ S1 with
      | .nx ρ2 S2 => whileN t body n ρ2 S2
      | .cnt ρ2 S2 => whileN t body n ρ2 S2
      | .brk ρ2 S2 => some (.nx ρ2 S2)
      | .ret d S2 => some (.ret d S2)
      | .err x ρ2 S2 => some (.err x ρ2 S2)
      | .bad => some .bad
    | .ok false S1 => some (.nx ρ S1)
    | .err x S1 => some (.err x ρ S1)
    | .bad => some .bad
theorem whileN_more (t : CT) (body : CS) : ∀ (n : Nat) (ρ : Ro) (S : Sto) (r : RSt) (k : Nat), whileN t body n ρ S = some r → whileN t body (n + k) ρ S = some r := by
  intro n
  induction n with
  | zero => intro ρ S r k h; cases h
  | succ n ih =>
    intro ρ S r k h
    rw [Nat.succ_add]
    unfold whileN at h ⊢
    cases q : t ρ S with
    | ok b S1 =>
      cases b with
      | true =>
        simp only [q] at h ⊢
        cases q2 : body ρ S1 with
        | nx ρ2 S2 => simp only [q2] at h ⊢; exact ih _ _ _ _ h
        | cnt ρ2 S2 => simp only [q2] at h ⊢; exact ih _ _ _ _ h
        | brk ρ2 S2 => simp only [q2] at h ⊢; exact h
        | ret d S2 => simp only [q2] at h ⊢; exact h
        | err x ρ2 S2 => simp only [q2] at h ⊢; exact h
        | bad => simp only [q2] at h ⊢; exact h
      | false => simp only [q] at h ⊢; exact h
    | err x S1 => simp only [q] at h ⊢; exact h
    | bad => simp only [q] at h ⊢; exact h
theorem whileN_inj {t : CT} {body : CS} {n m : Nat} {ρ : Ro} {S : Sto} {r r' : RSt} (h : whileN t body n ρ S = some r) (h' : whileN t body m ρ S = some r') : r = r' := by
  have h1 := whileN_more t body n ρ S r m h
  have h2 := whileN_more t body m ρ S r' n h'
  rw [Nat.add_comm] at h2
  rw [h1] at h2
  exact Option.some.inj h2
open Classical in
noncomputable def cWhile (t : CT) (body : CS) : CS := fun ρ S => if h : ∃ r n, whileN t body n ρ S = some r then Classical.choose h else .bad
theorem cWhile_of {t : CT} {body : CS} {n : Nat} {ρ : Ro} {S : Sto} {r : RSt} (h : whileN t body n ρ S = some r) : cWhile t body ρ S = r := by
  unfold cWhile
  have hx : ∃ r n, whileN t body n ρ S = some r := ⟨r, n, h⟩
  rw [dif_pos hx]
  obtain ⟨m, hm⟩ := Classical.choose_spec hx
  exact whileN_inj hm h
theorem cWhile_ends {t : CT} {body : CS} {ρ : Ro} {S : Sto} (h : cWhile t body ρ S ≠ .bad) : ∃ n, whileN t body n ρ S = some (cWhile t body ρ S) := by
  unfold cWhile at h ⊢
  by_cases hx : ∃ r n, whileN t body n ρ S = some r
  · rw [dif_pos hx]
    exact Classical.choose_spec hx
  · rw [dif_neg hx] at h
    exact absurd rfl h
/-- one turn -/
theorem cWhile_go {t : CT} {body : CS} {ρ ρ2 : Ro} {S S1 S2 : Sto} (ht : t ρ S = .ok true S1) (hb : body ρ S1 = .nx ρ2 S2) : cWhile t body ρ S = cWhile t body ρ2 S2 := by
  by_cases h : cWhile t body ρ2 S2 = .bad
  · by_cases h' : cWhile t body ρ S = .bad
    · rw [h, h']
    · obtain ⟨n, hn⟩ := cWhile_ends h'
      cases n with
      | zero => cases hn
      | succ n =>
        unfold whileN at hn
        simp only [ht, hb] at hn
        exact (cWhile_of hn).symm
  · obtain ⟨n, hn⟩ := cWhile_ends h
    refine cWhile_of (n := n + 1) ?_
    unfold whileN
    simp only [ht, hb]
    exact hn
theorem cWhile_end {t : CT} {body : CS} {ρ : Ro} {S S1 : Sto} (ht : t ρ S = .ok false S1) : cWhile t body ρ S = .nx ρ S1 := by
  refine cWhile_of (n := 1) ?_
  unfold whileN
  simp only [ht]
theorem cWhile_ret {t : CT} {body : CS} {ρ : Ro} {S S1 S2 : Sto} {d : D} (ht : t ρ S = .ok true S1) (hb : body ρ S1 = .ret d S2) : cWhile t body ρ S = .ret d S2 := by
  refine cWhile_of (n := 1) ?_
  unfold whileN
  simp only [ht, hb]
theorem cWhile_brk {t : CT} {body : CS} {ρ ρ2 : Ro} {S S1 S2 : Sto} (ht : t ρ S = .ok true S1) (hb : body ρ S1 = .brk ρ2 S2) : cWhile t body ρ S = .nx ρ2 S2 := by
  refine cWhile_of (n := 1) ?_
  unfold whileN
  simp only [ht, hb]
theorem cWhile_cnt {t : CT} {body : CS} {ρ ρ2 : Ro} {S S1 S2 : Sto} (ht : t ρ S = .ok true S1) (hb : body ρ S1 = .cnt ρ2 S2) : cWhile t body ρ S = cWhile t body ρ2 S2 := by
  by_cases h : cWhile t body ρ2 S2 = .bad
  · by_cases h' : cWhile t body ρ S = .bad
    · rw [h, h']
    · obtain ⟨n, hn⟩ := cWhile_ends h'
      cases n with
      | zero => cases hn
      | succ n =>
        unfold whileN at hn
        simp only [ht, hb] at hn
        exact (cWhile_of hn).symm
  · obtain ⟨n, hn⟩ := cWhile_ends h
    refine cWhile_of (n := n + 1) ?_
    unfold whileN
    simp only [ht, hb]
    exact hn
theorem cWhile_err {t : CT} {body : CS} {ρ ρ2 : Ro} {S S1 S2 : Sto} {x : Exn} (ht : t ρ S = .ok true S1) (hb : body ρ S1 = .err x ρ2 S2) : cWhile t body ρ S = .err x ρ2 S2 := by
  refine cWhile_of (n := 1) ?_
  unfold whileN
  simp only [ht, hb]
theorem ms_while {X : Cx} {W : WX} {c : Expr} {body : List Stmt} {t : CT} {cb : CS} {pos : Pos} (hp : PassesOwn (model X.prog X.w) X.A X.env X.xe) (hc : MT X W c t) (hb : MSs X W body cb) : MS X W (.While c body [] pos) (cWhile t cb) := by
  refine ⟨(ps_while hp hc.pt hb.ps).imp fun D' σ H h => ?_⟩
  obtain ⟨ρ, φ, S, hE, hs, h⟩ := h
  have hb : cWhile t cb ρ S ≠ .bad := fun e => by rw [e] at h; exact h
  obtain ⟨n, hn⟩ := cWhile_ends hb
  generalize cWhile t cb ρ S = r at h hn
  refine ⟨fun m σ H => ∃ ρ φ S r, RE X.K φ H ρ σ ∧ RS X.K φ H S ∧ whileN t cb m ρ S = some r ∧ OkS X.K X.mg φ H W D' r, ⟨n, ρ, φ, S, r, hE, hs, hn, h⟩, ?_⟩
  rintro m σ H ⟨ρ, φ, S, r, hE, hs, hn, h⟩
  cases m with
  | zero => cases hn
  | succ m =>
    unfold whileN at hn
    cases q : t ρ S with
    | bad =>
      simp only [q] at hn
      cases hn
      exact h.elim
    | err x S1 =>
      simp only [q] at hn
      cases hn
      refine ⟨ρ, φ, S, hE, hs, ?_⟩
      rw [q]
      exact fun φ1 H1 c d l s rx => h φ1 H1 σ c d l s (hE.mono l) rx
    | ok b S1 =>
      refine ⟨ρ, φ, S, hE, hs, ?_⟩
      rw [q]
      intro φ1 H1 b' l s e
      cases e
      cases b with
      | false =>
        simp only [q] at hn
        cases hn
        simp only [Bool.false_eq_true, if_false]
        exact h φ1 H1 σ l s (hE.mono l)
      | true =>
        simp only [q] at hn
        simp only [if_true]
        refine ⟨fun σ' H' => ∃ ρ φ S r, RE X.K φ H' ρ σ' ∧ RS X.K φ H' S ∧ whileN t cb m ρ S = some r ∧ OkS X.K X.mg φ H' W D' r, fun σ' H' n => ⟨m, by omega, n⟩, ρ, φ1, S1, hE.mono l, s, ?_⟩
        have h := OkS.later l h
        cases q2 : cb ρ S1 with
        | nx ρ2 S2 => simp only [q2] at hn; exact fun φ4 H4 σ4 l4 s4 re4 => ⟨ρ2, φ4, S2, r, re4, s4, hn, OkS.later l4 h⟩
        | cnt ρ2 S2 => simp only [q2] at hn; exact fun φ4 H4 σ4 l4 s4 re4 => ⟨ρ2, φ4, S2, r, re4, s4, hn, OkS.later l4 h⟩
        | brk ρ2 S2 => simp only [q2] at hn; cases hn; exact h
        | ret d S2 => simp only [q2] at hn; cases hn; exact h
        | err x ρ2 S2 => simp only [q2] at hn; cases hn; exact h
        | bad => simp only [q2] at hn; cases hn; exact h
end MP

/-! MP: displays, places, slices, built-ins, changes of the store, comprehensions. -/
namespace MP
open PySem PySem.Spec PyProof.Rows L2

/-! ### displays -/
def cTup (a : CA) : C := fun ρ S => (a ρ S).bind fun ds S => .ok (.tup ds) S
def cLst (a : CA) : C := fun ρ S => (a ρ S).bind fun ds S => .ok (.lst ds) S
section
variable {X : Cx} {W : WX} {es : List Expr} {ca : CA} {pos : Pos}
theorem Ok.stepA {α' β' : Type} {rel' : Phi → Hp → α' → β' → Prop} {σ : L2.St} {φ : Phi} {H : Hp} {ρ : Ro} {S : Sto} {Q : List V → Hp → Prop} {Q' : β' → Hp → Prop} {f : List D → Sto → R α'} (ha : MA X W es ca)
    (h : Ok X.K X.mg rel' φ H (fun cls d H' => W cls d σ H') Q' ((ca ρ S).bind f)) (k : ∀ ds S φ1 H1 vs, ds.length = es.length → vs.length = es.length → Le φ H φ1 H1 → RS X.K φ1 H1 S → RelL X.K φ1 H1 ds vs → Ok X.K X.mg rel' φ1 H1 (fun cls d H' => W cls d σ H') Q' (f ds S) → Q vs H1) :
    Ok X.K X.mg (RelL X.K) φ H (fun cls d H' => W cls d σ H') Q (ca ρ S) :=
  h.step fun ds S1 φ1 H1 vs q l s r z => k ds S1 φ1 H1 vs (ha.len _ _ _ _ q) (by rw [← r.length]; exact ha.len _ _ _ _ q) l s r z
theorem me_tup {x1} (ha : MA X W es ca) (hl : es.length ≤ 16000000 := by decide) : ME X W (.Tuple es x1 pos) (cTup ca) := by
  refine ⟨(pe_tup ha.pa).imp fun σ H Q h => ?_⟩
  obtain ⟨ρ, φ, S, hE, hs, h⟩ := h
  refine ⟨ρ, φ, S, hE, hs, Ok.stepA ha h fun ds S1 φ1 H1 vs l1 l2 l s r z => ?_⟩
  refine ⟨line_ge (by omega), fun p hp => z φ1 _ _ (Le.fresh hp) (s.laid hp) ?_⟩
  exact .tup (line_ge (by omega)) (.inl ⟨.inl upd_same, s.fresh hp⟩) (r.laid hp)
theorem me_lst (ha : MA X W es ca) (hl : es.length ≤ 16000000 := by decide) : ME X W (.List es pos) (cLst ca) := by
  refine ⟨(pe_lst ha.pa).imp fun σ H Q h => ?_⟩
  obtain ⟨ρ, φ, S, hE, hs, h⟩ := h
  refine ⟨ρ, φ, S, hE, hs, Ok.stepA ha h fun ds S1 φ1 H1 vs l1 l2 l s r z => ?_⟩
  refine ⟨line_ge (by omega), fun p hp => z φ1 _ _ (Le.fresh hp) (s.laid hp) ?_⟩
  exact .lst (line_ge (by omega)) upd_same (s.fresh hp) (r.laid hp)
end

/-! ### a new changeable object -/
section
variable {α : Type}
/-- at the k-th level from the top -/
def newAt : Nat → List (List α) → α → Option (Nat × Nat × List (List α))
  | _, [], _ => none
  | 0, r :: rs, o => some (rs.length, r.length, (r ++ [o]) :: rs)
  | k + 1, r :: rs, o => match newAt k rs o with
    | some (l, i, rs') => some (l, i, r :: rs')
    | none => none
theorem newAt_len : ∀ {k : Nat} {rs rs' : List (List α)} {o : α} {l i : Nat}, newAt k rs o = some (l, i, rs') → rs'.length = rs.length
  | _, [], _, _, _, _, h => by simp [newAt] at h
  | 0, r :: rs, _, o, l, i, h => by
    simp only [newAt, Option.some.injEq, Prod.mk.injEq] at h
    obtain ⟨_, _, e⟩ := h
    rw [← e]; rfl
  | k + 1, r :: rs, rs', o, l, i, h => by
    unfold newAt at h
    cases q : newAt k rs o with
    | none => simp only [q] at h; cases h
    | some t =>
      obtain ⟨l2, i2, r2⟩ := t
      simp only [q, Option.some.injEq, Prod.mk.injEq] at h
      obtain ⟨_, _, e⟩ := h
      rw [← e, List.length_cons, List.length_cons, newAt_len q]
theorem newAt_lt : ∀ {k : Nat} {rs rs' : List (List α)} {o : α} {l i : Nat}, newAt k rs o = some (l, i, rs') → l < rs.length
  | _, [], _, _, _, _, h => by simp [newAt] at h
  | 0, r :: rs, _, o, l, i, h => by
    simp only [newAt, Option.some.injEq, Prod.mk.injEq] at h
    obtain ⟨e, _, _⟩ := h
    rw [← e]; simp
  | k + 1, r :: rs, rs', o, l, i, h => by
    unfold newAt at h
    cases q : newAt k rs o with
    | none => simp only [q] at h; cases h
    | some t =>
      obtain ⟨l2, i2, r2⟩ := t
      simp only [q, Option.some.injEq, Prod.mk.injEq] at h
      obtain ⟨e, _, _⟩ := h
      have := newAt_lt q
      rw [← e, List.length_cons]
      omega
theorem newAt_at : ∀ {k : Nat} {rs rs' : List (List α)} {o : α} {l i : Nat}, newAt k rs o = some (l, i, rs') → ∀ l' i', look rs' l' i' = if l' = l ∧ i' = i then some o else look rs l' i'
  | _, [], _, _, _, _, h => by simp [newAt] at h
  | 0, r :: rs, _, o, l, i, h => by
    simp only [newAt, Option.some.injEq, Prod.mk.injEq] at h
    obtain ⟨e1, e2, e⟩ := h
    subst e1 e2 e
    intro l' i'
    rw [look, look]
    by_cases hl : l' = rs.length
    · rw [if_pos hl, if_pos hl]
      by_cases hi : i' = r.length
      · subst hi
        simp [hl]
      · rw [if_neg (by omega)]
        by_cases hlt : i' < r.length
        · rw [List.getElem?_append_left hlt]
        · rw [List.getElem?_eq_none (by simp; omega), List.getElem?_eq_none (by omega)]
    · rw [if_neg hl, if_neg hl, if_neg (by omega)]
  | k + 1, r :: rs, rs', o, l, i, h => by
    unfold newAt at h
    cases q : newAt k rs o with
    | none => simp only [q] at h; cases h
    | some t =>
      obtain ⟨l2, i2, r2⟩ := t
      simp only [q, Option.some.injEq, Prod.mk.injEq] at h
      obtain ⟨e1, e2, e⟩ := h
      subst e1 e2 e
      intro l' i'
      have hlt := newAt_lt q
      rw [look, look, newAt_len q]
      by_cases hl : l' = rs.length
      · rw [if_pos hl, if_pos hl, if_neg (by omega)]
      · rw [if_neg hl, if_neg hl]
        exact newAt_at q l' i'
theorem newAt_fresh : ∀ {k : Nat} {rs rs' : List (List α)} {o : α} {l i : Nat}, newAt k rs o = some (l, i, rs') → look rs l i = none
  | _, [], _, _, _, _, h => by simp [newAt] at h
  | 0, r :: rs, _, o, l, i, h => by
    simp only [newAt, Option.some.injEq, Prod.mk.injEq] at h
    obtain ⟨e1, e2, e⟩ := h
    subst e1 e2
    simp
  | k + 1, r :: rs, rs', o, l, i, h => by
    unfold newAt at h
    cases q : newAt k rs o with
    | none => simp only [q] at h; cases h
    | some t =>
      obtain ⟨l2, i2, r2⟩ := t
      simp only [q, Option.some.injEq, Prod.mk.injEq] at h
      obtain ⟨e1, e2, e⟩ := h
      subst e1 e2
      rw [look_low r _ (newAt_lt q)]
      exact newAt_fresh q
/-- two stores of one shape take it at the same place -/
theorem newAt_both {β : Type} : ∀ {k : Nat} {rs rs' : List (List α)} {qs : List (List β)} {o : α} {l i : Nat} (b : β), rs.map List.length = qs.map List.length → newAt k rs o = some (l, i, rs') → ∃ qs', newAt k qs b = some (l, i, qs') ∧ rs'.map List.length = qs'.map List.length
  | _, [], _, _, _, _, _, _, _, h => by simp [newAt] at h
  | _, _ :: _, _, [], _, _, _, _, e, _ => by simp at e
  | 0, r :: rs, _, q :: qs, o, l, i, b, e, h => by
    simp only [newAt, Option.some.injEq, Prod.mk.injEq] at h
    obtain ⟨e1, e2, e3⟩ := h
    subst e1 e2 e3
    simp only [List.map_cons, List.cons.injEq] at e
    have e2 : rs.length = qs.length := by have := congrArg List.length e.2; simpa using this
    refine ⟨(q ++ [b]) :: qs, ?_, by simp [e.1, e.2]⟩
    simp [newAt, e2, e.1]
  | k + 1, r :: rs, rs', q :: qs, o, l, i, b, e, h => by
    unfold newAt at h
    cases z : newAt k rs o with
    | none => simp only [z] at h; cases h
    | some t =>
      obtain ⟨l2, i2, r2⟩ := t
      simp only [z, Option.some.injEq, Prod.mk.injEq] at h
      obtain ⟨e1, e2, e3⟩ := h
      subst e1 e2 e3
      simp only [List.map_cons, List.cons.injEq] at e
      obtain ⟨qs', h1, h2⟩ := newAt_both b e.2 z
      refine ⟨q :: qs', ?_, by simp [e.1, h2]⟩
      simp [newAt, h1]
end
section
variable {K : PySem.W.Frag} {φ : Phi} {H : Hp} {S S' : Sto}
/-- it is laid -/
theorem RS.newed {k l i : Nat} {o : O} {p : Addr} {u : HO} (s : RS K φ H S) (hp : H p = none) (h : newAt k S o = some (l, i, S')) (hl : o.le l = true) (hr : ∀ φ', Le φ H φ' (upd H p u) → RO K φ' (upd H p u) o p) :
    ∃ φ', Le φ H φ' (upd H p u) ∧ RS K φ' (upd H p u) S' ∧ look φ'.r l i = some p := by
  obtain ⟨r', h1, h2⟩ := newAt_both p s.shape.symm h
  have ha := newAt_at h1
  have hb := newAt_at h
  have fr := s.fresh hp
  have le : Le φ H ⟨r', φ.p⟩ (upd H p u) := by
    refine ⟨newAt_len h1, fun l' i' a e => ?_, fun a w e aw => ⟨upd_some hp e, fun l' i' e' => ?_, aw.2⟩, fun _ e => e, fun a w _ e => upd_some hp e⟩
    · rw [show look (Phi.mk r' φ.p).r l' i' = look r' l' i' from rfl, ha]
      by_cases q : l' = l ∧ i' = i
      · rw [q.1, q.2, newAt_fresh h1] at e
        cases e
      · rw [if_neg q]; exact e
    · rw [show look (Phi.mk r' φ.p).r l' i' = look r' l' i' from rfl, ha] at e'
      by_cases q : l' = l ∧ i' = i
      · rw [if_pos q] at e'
        cases e'
        rw [hp] at e
        cases e
      · rw [if_neg q] at e'
        exact aw.1 _ _ e'
  refine ⟨⟨r', φ.p⟩, le, ⟨h2.symm, fun l' i' o' a e1 e2 => ?_, fun l' i' l2 i2 a e1 e2 => ?_, fun l' i' o' e => ?_, fun l' i' a e => ?_, fun a e => ?_, fun l' i' a e => ?_⟩, ?_⟩
  · rw [show look (Phi.mk r' φ.p).r l' i' = look r' l' i' from rfl, ha] at e2
    rw [hb] at e1
    by_cases q : l' = l ∧ i' = i
    · rw [if_pos q] at e1 e2
      cases e1
      cases e2
      exact hr _ le
    · rw [if_neg q] at e1 e2
      have := s.obj l' i' o' a e1 e2
      cases o' with
      | lst ds =>
        obtain ⟨vs, v1, v2, v3⟩ := this
        exact ⟨vs, upd_some hp v1, v2, v3.mono le⟩
      | dead => trivial
  · rw [show look (Phi.mk r' φ.p).r l' i' = look r' l' i' from rfl, ha] at e1
    rw [show look (Phi.mk r' φ.p).r l2 i2 = look r' l2 i2 from rfl, ha] at e2
    by_cases q : l' = l ∧ i' = i <;> by_cases q2 : l2 = l ∧ i2 = i
    · omega
    · rw [if_pos q] at e1
      rw [if_neg q2] at e2
      cases e1
      exact absurd e2 (fr.1 _ _)
    · rw [if_neg q] at e1
      rw [if_pos q2] at e2
      cases e2
      exact absurd e1 (fr.1 _ _)
    · rw [if_neg q] at e1
      rw [if_neg q2] at e2
      exact s.inj _ _ _ _ a e1 e2
  · rw [hb] at e
    by_cases q : l' = l ∧ i' = i
    · rw [if_pos q] at e
      cases e
      rw [q.1]; exact hl
    · rw [if_neg q] at e
      exact s.lev _ _ _ e
  · rw [show look (Phi.mk r' φ.p).r l' i' = look r' l' i' from rfl, ha] at e
    by_cases q : l' = l ∧ i' = i
    · rw [if_pos q] at e
      cases e
      rw [upd_same]; simp
    · rw [if_neg q] at e
      have := s.trk _ _ _ e
      cases z : H a with
      | none => exact absurd z this
      | some w => rw [upd_some hp z]; simp
  · have := s.ptrk a e
    cases z : H a with
    | none => exact absurd z this
    | some w => rw [upd_some hp z]; simp
  · rw [show look (Phi.mk r' φ.p).r l' i' = look r' l' i' from rfl, ha] at e
    by_cases q : l' = l ∧ i' = i
    · rw [if_pos q] at e
      cases e
      exact fr.2
    · rw [if_neg q] at e
      exact s.dis _ _ _ e
  · rw [show look (Phi.mk r' φ.p).r l i = look r' l i from rfl, ha, if_pos ⟨rfl, rfl⟩]
/-- an object is changed -/
theorem Le.put {l i : Nat} {a : Addr} {u : HO} (s : RS K φ H S) (ha : look φ.r l i = some a) : Le φ H φ (upd H a u) :=
  ⟨rfl, fun _ _ _ e => e, fun b w e aw => ⟨by rw [upd_ne]; exact e; intro z; rw [z] at aw; exact aw.1 _ _ ha, aw⟩, fun _ e => e, fun b w hb e => by rw [upd_ne]; exact e; intro z; rw [z] at hb; exact s.dis _ _ _ ha hb⟩
theorem RS.put {l i : Nat} {a : Addr} {u : HO} {o o' : O} (s : RS K φ H S) (ha : look φ.r l i = some a) (ho : look S l i = some o) (hl : o'.le l = true) (hr : RO K φ (upd H a u) o' a) : RS K φ (upd H a u) (put S l i o') := by
  have le : Le φ H φ (upd H a u) := Le.put s ha
  refine ⟨by rw [put_shape]; exact s.shape, fun l' i' o2 b e1 e2 => ?_, s.inj, fun l' i' o2 e => ?_, fun l' i' b e => ?_, fun b e => ?_, s.dis⟩
  · by_cases q : l' = l ∧ i' = i
    · rw [q.1, q.2, look_put_same o' ho] at e1
      rw [q.1, q.2, ha] at e2
      cases e1
      cases e2
      exact hr
    · rw [look_put_ne o' q] at e1
      have hb : b ≠ a := fun z => by
        rw [z] at e2
        exact q (s.inj _ _ _ _ a e2 ha)
      have := s.obj _ _ _ _ e1 e2
      cases o2 with
      | lst ds =>
        obtain ⟨vs, v1, v2, v3⟩ := this
        exact ⟨vs, by rw [upd_ne hb]; exact v1, v2, v3.mono le⟩
      | dead => trivial
  · by_cases q : l' = l ∧ i' = i
    · rw [q.1, q.2, look_put_same o' ho] at e
      cases e
      rw [q.1]; exact hl
    · rw [look_put_ne o' q] at e
      exact s.lev _ _ _ e
  · by_cases hb : b = a
    · rw [hb, upd_same]; simp
    · rw [upd_ne hb]; exact s.trk _ _ _ e
  · by_cases hb : b = a
    · rw [hb, upd_same]; simp
    · rw [upd_ne hb]; exact s.ptrk _ e
end
/-- a new list that will be changed, k levels up -/
def cNew (k : Nat) (a : CA) : C := fun ρ S => (a ρ S).bind fun ds S => match newAt k S (.lst ds) with
  | some (l, i, S') => if D.les l ds = true then .ok (.ref l i) S' else .bad
  | none => .bad
theorem me_new {X : Cx} {W : WX} {es : List Expr} {ca : CA} {pos : Pos} (k : Nat) (ha : MA X W es ca) (hl : es.length ≤ 16000000 := by decide) : ME X W (.List es pos) (cNew k ca) := by
  refine ⟨(pe_lst ha.pa).imp fun σ H Q h => ?_⟩
  obtain ⟨ρ, φ, S, hE, hs, h⟩ := h
  refine ⟨ρ, φ, S, hE, hs, Ok.stepA ha h fun ds S1 φ1 H1 vs l1 l2 l s r z => ?_⟩
  refine ⟨line_ge (by omega), fun p hp => ?_⟩
  cases q : newAt k S1 (.lst ds) with
  | none => simp only [q] at z; exact z.elim
  | some t =>
    obtain ⟨lv, i, S'⟩ := t
    simp only [q] at z
    by_cases hle : D.les lv ds = true
    · simp only [hle, if_true] at z
      obtain ⟨φ', le, s', hq⟩ := s.newed (u := .lst vs) hp q hle fun φ' le => ⟨vs, upd_same, line_ge (by omega), r.mono le⟩
      exact z φ' _ _ le s' (.ref hq)
    · simp only [hle] at z
      exact z.elim

/-! ### a place of a sequence -/
def gIx : G2
  | .tup xs, .int i, S => match atI xs i with
    | some d => .ok d S
    | none => .bad
  | .lst xs, .int i, S => match atI xs i with
    | some d => .ok d S
    | none => .bad
  | .rol xs, .int i, S => match atI xs i with
    | some d => .ok d S
    | none => .bad
  | .str z, .int i, S => if z.length ≤ 16000000 then match atI z.cps.toList i with
    | some c => .ok (.str ⟨#[c]⟩) S
    | none => .bad
    else .bad
  | .ref l n, .int i, S => match look S l n with
    | some (.lst xs) => match atI xs i with
      | some d => .ok d S
      | none => .bad
    | _ => .bad
  | _, _, _ => .bad
theorem relL_at {K : PySem.W.Frag} {φ : Phi} {H : Hp} {ds : List D} {vs : List V} {i : Int} {d : D} (r : RelL K φ H ds vs) (h : atI ds i = some d) : ∃ v, atI vs i = some v ∧ Rel K φ H d v := by
  unfold atI at h ⊢
  rw [r.length] at h
  cases q : ixN vs.length i with
  | none => rw [q] at h; cases h
  | some j =>
    rw [q] at h
    exact r.get h
theorem me_ix {X : Cx} {W : WX} {pos : Pos} {a b : Expr} {ca cb : C} (ha : ME X W a ca) (hb : ME X W b cb) (hs : PlainIx b := by exact fun _ _ => rfl) : ME X W (.Subscript a b pos) (cB gIx ca cb) := by
  refine ⟨(pe_ix ix_seq ha.pe hb.pe hs).imp fun σ H Q h => bin_imp (ta := ca) (fun φ H S x y vx vy s rx ry z => ?_) h⟩
  cases ry <;> try (cases rx <;> exact z.elim)
  rename_i i
  cases rx <;> try exact z.elim
  · rename_i w
    unfold gIx at z
    by_cases hw : w.length ≤ 16000000
    · simp only [hw, if_true] at z
      cases q : atI w.cps.toList i with
      | none => simp only [q] at z; exact z.elim
      | some c =>
        simp only [q] at z
        exact .inr (.inr ⟨w, i, c, rfl, rfl, line_ge hw, q, z φ H _ (Le.refl _ _) s (.str _)⟩)
    · simp only [hw, if_false] at z
      exact z.elim
  · rename_i p vs ds zz f r
    unfold gIx at z
    cases q : atI ds i with
    | none => simp only [q] at z; exact z.elim
    | some d =>
      simp only [q] at z
      obtain ⟨v, h1, h2⟩ := relL_at r q
      exact .inr (.inl ⟨p, vs, i, v, rfl, rfl, f.sq, h1, z φ H _ (Le.refl _ _) s h2⟩)
  · rename_i p vs ds zz f w r
    unfold gIx at z
    cases q : atI ds i with
    | none => simp only [q] at z; exact z.elim
    | some d =>
      simp only [q] at z
      obtain ⟨v, h1, h2⟩ := relL_at r q
      exact .inl ⟨p, vs, i, v, rfl, rfl, SqL.of f, h1, z φ H _ (Le.refl _ _) s h2⟩
  · rename_i p vs ds zz f r
    unfold gIx at z
    cases q : atI ds i with
    | none => simp only [q] at z; exact z.elim
    | some d =>
      simp only [q] at z
      obtain ⟨v, h1, h2⟩ := relL_at r q
      exact .inl ⟨p, vs, i, v, rfl, rfl, f.sq, h1, z φ H _ (Le.refl _ _) s h2⟩
  · rename_i l n p e
    unfold gIx at z
    cases q : look S l n with
    | none => simp only [q] at z; exact z.elim
    | some o =>
      cases o with
      | dead => simp only [q] at z; exact z.elim
      | lst ds =>
        simp only [q] at z
        obtain ⟨vs, hv, _, r⟩ := s.obj l n _ p q e
        cases q2 : atI ds i with
        | none => simp only [q2] at z; exact z.elim
        | some d =>
          simp only [q2] at z
          obtain ⟨v, h1, h2⟩ := relL_at r q2
          exact .inl ⟨p, vs, i, v, rfl, rfl, SqL.of hv, h1, z φ H _ (Le.refl _ _) s h2⟩

/-! ### slices -/
abbrev CO := Ro → Sto → R (Option Int)
def coN : CO := fun _ S => .ok none S
def coS (c : C) : CO := fun ρ S => (c ρ S).bind fun d S => match d with
  | .int i => .ok (some i) S
  | _ => .bad
def cutL {α : Type} (xs : List α) (lo hi : Option Int) : List α := (xs.drop (HT.sIx xs.length 0 lo)).take (HT.sIx xs.length xs.length hi - HT.sIx xs.length 0 lo)
def gSl (x : D) (lo hi : Option Int) (S : Sto) : R D := match x with
  | .tup xs => .ok (.tup (cutL xs lo hi)) S
  | .lst xs => .ok (.lst (cutL xs lo hi)) S
  | .rol xs => .ok (.lst (cutL xs lo hi)) S
  | .str z => if z.length ≤ 16000000 then .ok (.str (cutS z lo hi)) S else .bad
  | .ref l n => match look S l n with
    | some (.lst xs) => .ok (.lst (cutL xs lo hi)) S
    | _ => .bad
  | _ => .bad
def cSl (a : C) (lo hi : CO) : C := fun ρ S => (a ρ S).bind fun x S => (lo ρ S).bind fun l S => (hi ρ S).bind fun h S => gSl x l h S
def rdO (X : Cx) (W : WX) (c : CO) : TO := fun σ H Q => ∃ ρ φ S, RE X.K φ H ρ σ ∧ RS X.K φ H S ∧ Ok X.K X.mg (fun _ _ (a b : Option Int) => a = b) φ H (fun cls d H' => W cls d σ H') Q (c ρ S)
structure MO (X : Cx) (W : WX) (e : Option Expr) (c : CO) : Prop where
  po : PO X e (rdO X W c)
theorem _root_.L2.PO.imp {X : Cx} {e : Option Expr} {t u : TO} (h : PO X e t) (k : ∀ σ H Q, u σ H Q → t σ H Q) : PO X e u := ⟨fun pins s σ H Q I z => h.run pins s σ H Q I (k σ H Q z)⟩
section
variable {X : Cx} {W : WX} {pos p2 : Pos} {a e : Expr} {lo hi : Option Expr} {ca ce : C} {cl ch : CO}
theorem mo_none : MO X W none coN := ⟨po_none.imp fun σ H Q h => by
  obtain ⟨ρ, φ, S, hE, hs, h⟩ := h
  exact h φ H none (Le.refl _ _) hs rfl⟩
theorem mo_some (he : ME X W e ce) : MO X W (some e) (coS ce) := ⟨(po_some he.pe).imp fun σ H Q h => by
  obtain ⟨ρ, φ, S, hE, hs, h⟩ := h
  refine ⟨ρ, φ, S, hE, hs, h.step fun d S1 φ1 H1 v q l s r z => ?_⟩
  cases r <;> try exact z.elim
  rename_i i
  exact ⟨i, rfl, z φ1 H1 _ (Le.refl _ _) s rfl⟩⟩
theorem relL_cut {K : PySem.W.Frag} {φ : Phi} {H : Hp} {ds : List D} {vs : List V} (r : RelL K φ H ds vs) (lo hi : Option Int) : RelL K φ H (cutL ds lo hi) (cutV vs lo hi) := by
  unfold cutL cutV
  rw [r.length]
  exact (r.drop _).take _
theorem cutV_all {vs : List V} {lo hi : Option Int} (h : HT.sIx vs.length 0 lo = 0 ∧ HT.sIx vs.length vs.length hi = vs.length) : cutV vs lo hi = vs := by
  unfold cutV
  rw [h.1, h.2]
  simp
theorem me_sl (ha : ME X W a ca) (hl : MO X W lo cl) (hh : MO X W hi ch) : ME X W (.Subscript a (.Slice lo hi none p2) pos) (cSl ca cl ch) := by
  refine ⟨(pe_slice ((sl_list (X := X)).or (sl_tupA.or sl_str)) ha.pe hl.po hh.po).imp fun σ H Q h => ?_⟩
  obtain ⟨ρ, φ, S, hE, hs, h⟩ := h
  refine ⟨ρ, φ, S, hE, hs, h.step fun x S1 φ1 H1 vx q l1 s1 rx0 za => ⟨ρ, φ1, S1, hE.mono l1, s1, za.step fun o1 S2 φ2 H2 o1' q2 l2 s2 e1 zb => ⟨ρ, φ2, S2, (hE.mono l1).mono l2, s2, zb.step fun o2 S3 φ3 H3 o2' q3 l3 s3 e2 z => ?_⟩⟩⟩
  cases e1
  cases e2
  have rx := (rx0.mono l2).mono l3
  clear rx0 za zb q q2 q3 h
  cases rx <;> try exact z.elim
  · rename_i w
    unfold gSl at z
    by_cases hw : w.length ≤ 16000000
    · simp only [hw, if_true] at z
      exact .inr (.inr ⟨w, rfl, line_ge hw, z φ3 H3 _ (Le.refl _ _) s3 (.str _)⟩)
    · simp only [hw, if_false] at z
      exact z.elim
  · rename_i p vs ds zz f r
    have rc := relL_cut r o1 o2
    refine .inr (.inl ⟨p, vs, rfl, f.sq, fun hw => ?_, fun hw p' hp' => ?_⟩)
    · rw [cutV_all hw] at rc
      exact z φ3 H3 _ (Le.refl _ _) s3 (.tup zz f rc)
    · exact z φ3 _ _ (Le.fresh hp') (s3.laid hp') (.tup (Nat.le_trans (cutV_length _ _ _) zz) (.inl ⟨.inl upd_same, s3.fresh hp'⟩) (rc.laid hp'))
  · rename_i p vs ds zz f w r
    have rc := relL_cut r o1 o2
    refine .inl ⟨p, vs, rfl, SqL.of f, fun p' hp' => ?_⟩
    exact z φ3 _ _ (Le.fresh hp') (s3.laid hp') (.lst (Nat.le_trans (cutV_length _ _ _) zz) upd_same (s3.fresh hp') (rc.laid hp'))
  · rename_i p vs ds zz f r
    have rc := relL_cut r o1 o2
    refine .inl ⟨p, vs, rfl, f.sq, fun p' hp' => ?_⟩
    exact z φ3 _ _ (Le.fresh hp') (s3.laid hp') (.lst (Nat.le_trans (cutV_length _ _ _) zz) upd_same (s3.fresh hp') (rc.laid hp'))
  · rename_i l n p e
    unfold gSl at z
    cases q : look S3 l n with
    | none => simp only [q] at z; exact z.elim
    | some o =>
      cases o with
      | dead => simp only [q] at z; exact z.elim
      | lst ds =>
        simp only [q] at z
        obtain ⟨vs, hv, zz, r⟩ := s3.obj l n _ p q e
        have rc := relL_cut r o1 o2
        refine .inl ⟨p, vs, rfl, SqL.of hv, fun p' hp' => ?_⟩
        exact z φ3 _ _ (Le.fresh hp') (s3.laid hp') (.lst (Nat.le_trans (cutV_length _ _ _) zz) upd_same (s3.fresh hp') (rc.laid hp'))
end

/-! ### o[i] = e, o.append(e) -/
def cSetI (o i e : C) : CS := fun ρ S => .of ρ (e ρ S) fun d S => .of ρ (o ρ S) fun x S => .of ρ (i ρ S) fun k S => match x, k with
  | .ref l n, .int j => match look S l n with
    | some (.lst xs) => match ixN xs.length j with
      | some m => if D.les l (xs.set m d) = true then .nx ρ (put S l n (.lst (xs.set m d))) else .bad
      | none => .bad
    | _ => .bad
  | _, _ => .bad
theorem ms_setI {X : Cx} {W : WX} {pos pos' : Pos} {o i e : Expr} {co ci ce : C} (he : ME X W e ce) (ho : ME X W o co) (hi : ME X W i ci)
    (ha : ∀ v, assign (.Subscript o i pos') X.env v = (do
      let ov ← holding [v] (eval o X.env)
      let iv ← holding [v, ov] (eval i X.env)
      standAt pos'
      holding [v, ov, iv] (setItem ov iv v)
      release [v, ov, iv] []) := by intro _; rfl)
    (hs : swapsWithSole [.Subscript o i pos'] e pos.line X.env = pure false := by rfl) (hw : swappedStores [.Subscript o i pos'] e X.env = pure none := by rfl)
    (h1 : (assignEach [.Subscript o i pos'] X.env).map (·.2) = [assign (.Subscript o i pos') X.env] := by rfl) : MS X W (.Assign [.Subscript o i pos'] e pos) (cSetI co ci ce) := by
  refine ⟨(ps_asg he.pe (pg_sub ho.pe hi.pe set_list ha) hs hw h1).imp fun D' σ H h => ?_⟩
  obtain ⟨ρ, φ, S, hE, hs, h⟩ := h
  refine ⟨ρ, φ, S, hE, hs, OkS.from hE h fun d S1 φ1 H1 v q l1 s1 rd0 za => ⟨ρ, φ1, S1, hE.mono l1, s1, OkS.from (hE.mono l1) za fun x S2 φ2 H2 vx q2 l2 s2 rx0 zb => ⟨ρ, φ2, S2, (hE.mono l1).mono l2, s2, OkS.from ((hE.mono l1).mono l2) zb fun k S3 φ3 H3 vk q3 l3 s3 rk z => ?_⟩⟩⟩
  have rx := rx0.mono l3
  have rd := (rd0.mono l2).mono l3
  clear rx0 rd0 za zb q q2 q3 h
  cases rx <;> try exact z.elim
  cases rk <;> try exact z.elim
  rename_i l n p e j
  cases q4 : look S3 l n with
  | none => simp only [q4] at z; exact z.elim
  | some ob =>
    cases ob with
    | dead => simp only [q4] at z; exact z.elim
    | lst ds =>
      simp only [q4] at z
      obtain ⟨vs, hv, zz, r⟩ := s3.obj l n _ p q4 e
      cases q5 : ixN ds.length j with
      | none => simp only [q5] at z; exact z.elim
      | some m =>
        simp only [q5] at z
        by_cases hle : D.les l (ds.set m d) = true
        · simp only [hle, if_true] at z
          refine ⟨p, vs, j, m, rfl, rfl, hv, by rw [← r.length]; exact q5, ?_⟩
          refine z φ3 _ σ (Le.put s3 e) (s3.put e q4 hle ⟨_, upd_same, by simpa using zz, ?_⟩) ((((hE.mono l1).mono l2).mono l3).mono (Le.put s3 e))
          exact RelL.mono (Le.put s3 e) (r.set rd m)
        · simp only [hle] at z
          exact z.elim
def cApp (o e : C) : C := fun ρ S => (o ρ S).bind fun x S => match x with
  | .ref l n => match look S l n with
    | some (.lst _) => (e ρ S).bind fun d S => match look S l n with
      | some (.lst xs) => if xs.length < 16000000 ∧ D.les l (xs ++ [d]) = true then .ok .non (put S l n (.lst (xs ++ [d]))) else .bad
      | _ => .bad
    | _ => .bad
  | _ => .bad
theorem me_app {X : Cx} {W : WX} {pos apos : Pos} {o e : Expr} {co ce : C} (ho : ME X W o co) (he : ME X W e ce)
    (hbase : attributeBase o "append" X.env (eval o X.env) = eval o X.env := by rfl) (hline : (apos.endLine == pos.line) = true := by rfl)
    (hfew : ((backTo pos (starEach [e] X.env)).all (fun x => !x.1) && (backToKw pos (keywordEach [] X.env)).all (fun x => x.1.isSome)
      && decide ([e].length + ([] : List Keyword).length + (if ([] : List Keyword).isEmpty then 0 else 1) < 30)) = true := by rfl)
    (hs : starEach [e] X.env = (false, eval e X.env) :: starEach [] X.env := by rfl) (hplain : (backTo pos (starEach [] X.env)).any (·.1) = false := by rfl) :
    ME X W (.Call (.Attribute o "append" apos) [e] [] pos) (cApp co ce) := by
  have ma := ma_cons he ma_nil hs
  refine ⟨(pe_bm PySem.F.plainAttrs_list PySem.F.slot_list_append PySem.F.type_list_append mt_append ho.pe ma.pa hbase hfew hline hs hplain).imp fun σ H Q h => ?_⟩
  obtain ⟨ρ, φ, S, hE, hs, h⟩ := h
  refine ⟨ρ, φ, S, hE, hs, h.step fun x S1 φ1 H1 vx q l1 s1 rx z => ?_⟩
  cases rx <;> try exact z.elim
  rename_i l n p e0
  cases q0 : look S1 l n with
  | none => simp only [q0] at z; exact z.elim
  | some ob0 =>
    cases ob0 with
    | dead => simp only [q0] at z; exact z.elim
    | lst ds0 =>
      simp only [q0] at z
      obtain ⟨vs0, hv0, _, _⟩ := s1.obj l n _ p q0 e0
      refine ⟨.inl ⟨rfl, vs0, SqL.of hv0⟩, ρ, φ1, S1, hE.mono l1, s1, ?_⟩
      have z2 : Ok X.K X.mg (Rel X.K) φ1 H1 (fun cls d H' => W cls d σ H') Q ((caCons ce caNil ρ S1).bind fun ds S => match ds with
        | [d] => (match look S l n with
          | some (.lst xs) => if xs.length < 16000000 ∧ D.les l (xs ++ [d]) = true then .ok .non (put S l n (.lst (xs ++ [d]))) else .bad
          | _ => .bad)
        | _ => .bad) := by
        revert z
        unfold caCons caNil
        cases ce ρ S1 <;> exact id
      refine z2.step fun ds S2 φ2 H2 vs q2 l2 s2 r z => ?_
      cases r with
      | nil => exact z.elim
      | cons r1 r =>
        cases r with
        | cons _ _ => exact z.elim
        | nil =>
          rename_i d v
          have e2 := l2.grow _ _ _ e0
          cases q4 : look S2 l n with
          | none => simp only [q4] at z; exact z.elim
          | some ob =>
            cases ob with
            | dead => simp only [q4] at z; exact z.elim
            | lst ds =>
              simp only [q4] at z
              obtain ⟨vs, hv, zz, r⟩ := s2.obj l n _ p q4 e2
              by_cases hle : ds.length < 16000000 ∧ D.les l (ds ++ [d]) = true
              · simp only [hle, and_self, if_true] at z
                have hlen : vs.length < 16000000 := by rw [← r.length]; exact hle.1
                refine ⟨p, vs, v, rfl, rfl, hv, line_gt hlen, z φ2 _ _ (Le.put s2 e2) (s2.put e2 q4 hle.2 ⟨_, upd_same, ?_, ?_⟩) .non⟩
                · rw [List.length_append]
                  exact line_ge (by simp; omega)
                · exact RelL.mono (Le.put s2 e2) (r.append (.cons r1 .nil))
              · simp only [hle, if_false] at z
                exact z.elim

/-! ### built-ins by name -/
def KS (X : Cx) (f : Value) (g : List D → Sto → R D) : Prop :=
  ∃ r : List V → Hp → VK → Prop, CallR X f r ∧ ∀ (W : WX) (σ : L2.St) (φ : Phi) (H : Hp) (S : Sto) (ds : List D) (vs : List V) (Q : VK), RS X.K φ H S → RelL X.K φ H ds vs → Ok X.K X.mg (Rel X.K) φ H (fun cls d H' => W cls d σ H') Q (g ds S) → r vs H Q
def cCall (g : List D → Sto → R D) (a : CA) : C := fun ρ S => (a ρ S).bind g
section
variable {X : Cx} {W : WX} {pos p : Pos} {x : Str} {e : Expr} {es : List Expr} {ca : CA} {g : List D → Sto → R D} {id T : String}
theorem me_callB (hc : KS X (.builtin id) g) (hg : Gl X x) (hm : X.mg x = none) (hv : bootBuiltins x = some (.builtin id)) (ha : MA X W (e :: es) ca) (hn : x ≠ "__name__" := by decide) (hdb : (x == ("__debug__" : Str)) = false := by decide)
    (he : starEach (e :: es) X.env = (false, eval e X.env) :: starEach es X.env := by rfl) (hpl : (backTo pos (starEach es X.env)).any (·.1) = false := by rfl) : ME X W (.Call (.Name x p) (e :: es) [] pos) (cCall g ca) := by
  obtain ⟨r, hr, k⟩ := hc
  refine ⟨(pe_callB hr hg hm hv ha.pa hn hdb he hpl).imp fun σ H Q h => ?_⟩
  obtain ⟨ρ, φ, S, hE, hs, h⟩ := h
  exact ⟨ρ, φ, S, hE, hs, h.step fun ds S1 φ1 H1 vs q l s r z => k W σ φ1 H1 S1 ds vs Q s r z⟩
theorem me_callTy (hc : KS X (.type T) g) (hg : Gl X x) (hm : X.mg x = none) (hv : bootBuiltins x = some (.type T)) (ha : MA X W (e :: es) ca) (hn : x ≠ "__name__" := by decide) (hdb : (x == ("__debug__" : Str)) = false := by decide)
    (he : starEach (e :: es) X.env = (false, eval e X.env) :: starEach es X.env := by rfl) (hpl : (backTo pos (starEach es X.env)).any (·.1) = false := by rfl) : ME X W (.Call (.Name x p) (e :: es) [] pos) (cCall g ca) := by
  obtain ⟨r, hr, k⟩ := hc
  refine ⟨(pe_callTy hr hg hm hv ha.pa hn hdb he hpl).imp fun σ H Q h => ?_⟩
  obtain ⟨ρ, φ, S, hE, hs, h⟩ := h
  exact ⟨ρ, φ, S, hE, hs, h.step fun ds S1 φ1 H1 vs q l s r z => k W σ φ1 H1 S1 ds vs Q s r z⟩
/-- a built-in class as a value -/
theorem me_ty {n : String} (hg : Gl X x) (hm : X.mg x = none) (hv : bootBuiltins x = some (.type n)) (hn : x ≠ "__name__" := by decide) (hd : (x == ("__debug__" : Str)) = false := by decide) : ME X W (.Name x pos) (cK (.ty n)) :=
  me_c (pe_bltn (v := .ty n) hg hm hv rfl hn hd) fun _ _ => .ty n
end
section
variable {X : Cx}
theorem KS.or {f : Value} {g1 g2 g : List D → Sto → R D} (h1 : KS X f g1) (h2 : KS X f g2) (e : ∀ ds S, g ds S = g1 ds S ∨ g ds S = g2 ds S) : KS X f g := by
  obtain ⟨r1, a1, k1⟩ := h1
  obtain ⟨r2, a2, k2⟩ := h2
  refine ⟨_, a1.or a2, fun W σ φ H S ds vs Q s r z => ?_⟩
  rcases e ds S with e | e
  · rw [e] at z
    exact .inl (k1 W σ φ H S ds vs Q s r z)
  · rw [e] at z
    exact .inr (k2 W σ φ H S ds vs Q s r z)
theorem relL1 {K : PySem.W.Frag} {φ : Phi} {H : Hp} {ds : List D} {vs : List V} (r : RelL K φ H ds vs) {d : D} (e : ds = [d]) : ∃ v, vs = [v] ∧ Rel K φ H d v := by
  subst e
  cases r with
  | cons r1 r => cases r; exact ⟨_, rfl, r1⟩
theorem relL2 {K : PySem.W.Frag} {φ : Phi} {H : Hp} {ds : List D} {vs : List V} (r : RelL K φ H ds vs) {d e : D} (h : ds = [d, e]) : ∃ v w, vs = [v, w] ∧ Rel K φ H d v ∧ Rel K φ H e w := by
  subst h
  cases r with
  | cons r1 r =>
    cases r with
    | cons r2 r => cases r; exact ⟨_, _, rfl, r1, r2⟩
def gLen : List D → Sto → R D
  | [.tup xs], S => .ok (.int xs.length) S
  | [.lst xs], S => .ok (.int xs.length) S
  | [.rol xs], S => .ok (.int xs.length) S
  | [.str z], S => if z.length ≤ 16000000 then .ok (.int z.length) S else .bad
  | [.ref l n], S => match look S l n with
    | some (.lst xs) => .ok (.int xs.length) S
    | _ => .bad
  | _, _ => .bad
theorem ks_len : KS X (.builtin "len") gLen := by
  refine ⟨_, call_len, fun W σ φ H S ds vs Q s r z => ?_⟩
  unfold gLen at z
  split at z
  · obtain ⟨v, rfl, r1⟩ := relL1 r rfl
    cases r1 with
    | tup zz f rr => exact ⟨_, _, rfl, .inr ⟨_, f.sq, rr.length⟩, z φ H _ (Le.refl _ _) s (.int _)⟩
  · obtain ⟨v, rfl, r1⟩ := relL1 r rfl
    cases r1 with
    | lst zz f w rr => exact ⟨_, _, rfl, .inl ⟨_, SqL.of f, rr.length⟩, z φ H _ (Le.refl _ _) s (.int _)⟩
  · obtain ⟨v, rfl, r1⟩ := relL1 r rfl
    cases r1 with
    | rol zz f rr => exact ⟨_, _, rfl, .inl ⟨_, f.sq, rr.length⟩, z φ H _ (Le.refl _ _) s (.int _)⟩
  · rename_i w
    obtain ⟨v, rfl, r1⟩ := relL1 r rfl
    cases r1
    by_cases hw : w.length ≤ 16000000
    · simp only [hw, if_true] at z
      exact ⟨_, _, rfl, ⟨line_ge hw, rfl⟩, z φ H _ (Le.refl _ _) s (.int _)⟩
    · simp only [hw, if_false] at z
      exact z.elim
  · rename_i l n
    obtain ⟨v, rfl, r1⟩ := relL1 r rfl
    cases r1 with
    | ref e =>
      rename_i p
      cases q : look S l n with
      | none => simp only [q] at z; exact z.elim
      | some o =>
        cases o with
        | dead => simp only [q] at z; exact z.elim
        | lst xs =>
          simp only [q] at z
          obtain ⟨vs, hv, _, rr⟩ := s.obj l n _ p q e
          exact ⟨_, _, rfl, .inl ⟨_, SqL.of hv, rr.length⟩, z φ H _ (Le.refl _ _) s (.int _)⟩
  · exact z.elim
def gAbs : List D → Sto → R D
  | [.int i], S => .ok (.int (if i < 0 then -i else i)) S
  | _, _ => .bad
theorem ks_abs : KS X (.builtin "abs") gAbs := by
  refine ⟨_, call_abs, fun W σ φ H S ds vs Q s r z => ?_⟩
  unfold gAbs at z
  split at z
  · obtain ⟨v, rfl, r1⟩ := relL1 r rfl
    cases r1
    exact ⟨_, rfl, z φ H _ (Le.refl _ _) s (.int _)⟩
  · exact z.elim
def gInt : List D → Sto → R D
  | [.int i], S => .ok (.int i) S
  | [.bl b], S => .ok (.int (if b then 1 else 0)) S
  | _, _ => .bad
theorem ks_int : KS X (.type "int") gInt := by
  refine ⟨_, call_int1, fun W σ φ H S ds vs Q s r z => ?_⟩
  unfold gInt at z
  split at z
  · obtain ⟨v, rfl, r1⟩ := relL1 r rfl
    cases r1
    exact .inl ⟨_, rfl, z φ H _ (Le.refl _ _) s (.int _)⟩
  · obtain ⟨v, rfl, r1⟩ := relL1 r rfl
    cases r1
    exact .inr ⟨_, rfl, z φ H _ (Le.refl _ _) s (.int _)⟩
  · exact z.elim
def gStrI : List D → Sto → R D
  | [.int i], S => if i.natAbs.log2 < 1920 then .ok (.str (toString i)) S else .bad
  | _, _ => .bad
theorem ks_str : KS X (.type "str") gStrI := by
  refine ⟨_, call_str_int, fun W σ φ H S ds vs Q s r z => ?_⟩
  unfold gStrI at z
  split at z
  · rename_i i
    obtain ⟨v, rfl, r1⟩ := relL1 r rfl
    cases r1
    by_cases h : i.natAbs.log2 < 1920
    · simp only [h, if_true] at z
      exact ⟨_, rfl, h, z φ H _ (Le.refl _ _) s (.str _)⟩
    · simp only [h, if_false] at z
      exact z.elim
  · exact z.elim
/-- the ints, the truth values of a list -/
def toInts : List D → Option (List Int)
  | [] => some []
  | .int i :: ds => (toInts ds).map (i :: ·)
  | _ :: _ => none
def toBls : List D → Option (List Bool)
  | [] => some []
  | .bl i :: ds => (toBls ds).map (i :: ·)
  | _ :: _ => none
@[simp] theorem toInts_map : ∀ ns : List Int, toInts (ns.map D.int) = some ns
  | [] => rfl
  | n :: ns => by simp [toInts, toInts_map ns]
@[simp] theorem toBls_map : ∀ ns : List Bool, toBls (ns.map D.bl) = some ns
  | [] => rfl
  | n :: ns => by simp [toBls, toBls_map ns]
theorem toInts_eq : ∀ {ds : List D} {ns : List Int}, toInts ds = some ns → ds = ns.map D.int
  | [], ns, h => by simp [toInts] at h; subst h; rfl
  | d :: ds, ns, h => by
    cases d <;> try (simp [toInts] at h; done)
    rename_i i
    simp only [toInts, Option.map_eq_some_iff] at h
    obtain ⟨ms, h1, h2⟩ := h
    subst h2
    rw [toInts_eq h1]
    rfl
theorem toBls_eq : ∀ {ds : List D} {ns : List Bool}, toBls ds = some ns → ds = ns.map D.bl
  | [], ns, h => by simp [toBls] at h; subst h; rfl
  | d :: ds, ns, h => by
    cases d <;> try (simp [toBls] at h; done)
    rename_i i
    simp only [toBls, Option.map_eq_some_iff] at h
    obtain ⟨ms, h1, h2⟩ := h
    subst h2
    rw [toBls_eq h1]
    rfl
def gFold {α : Type} (f : List D → Option α) (g : α → D) : List D → Sto → R D
  | [.lst xs], S => match f xs with
    | some ns => .ok (g ns) S
    | none => .bad
  | [.rol xs], S => match f xs with
    | some ns => .ok (g ns) S
    | none => .bad
  | [.ref l n], S => match look S l n with
    | some (.lst xs) => match f xs with
      | some ns => .ok (g ns) S
      | none => .bad
    | _ => .bad
  | _, _ => .bad
theorem fold_of {α : Type} {f : List D → Option α} {g : α → D} {W : WX} {σ : L2.St} {φ : Phi} {H : Hp} {S : Sto} {ds : List D} {vs : List V} {Q : VK} (s : RS X.K φ H S) (r : RelL X.K φ H ds vs) (z : Ok X.K X.mg (Rel X.K) φ H (fun cls d H' => W cls d σ H') Q (gFold f g ds S)) :
    ∃ a ws xs ns, vs = [.ref a] ∧ SqL X.K H a ws ∧ RelL X.K φ H xs ws ∧ f xs = some ns ∧ Ok X.K X.mg (Rel X.K) φ H (fun cls d H' => W cls d σ H') Q (.ok (g ns) S) := by
  unfold gFold at z
  split at z
  · rename_i xs
    obtain ⟨v, rfl, r1⟩ := relL1 r rfl
    cases r1 with
    | lst zz h w rr =>
      cases q : f xs with
      | none => simp only [q] at z; exact z.elim
      | some ns => simp only [q] at z; exact ⟨_, _, xs, ns, rfl, SqL.of h, rr, q, z⟩
  · rename_i xs
    obtain ⟨v, rfl, r1⟩ := relL1 r rfl
    cases r1 with
    | rol zz h rr =>
      cases q : f xs with
      | none => simp only [q] at z; exact z.elim
      | some ns => simp only [q] at z; exact ⟨_, _, xs, ns, rfl, h.sq, rr, q, z⟩
  · rename_i l n
    obtain ⟨v, rfl, r1⟩ := relL1 r rfl
    cases r1 with
    | ref e =>
      rename_i p
      cases q : look S l n with
      | none => simp only [q] at z; exact z.elim
      | some o =>
        cases o with
        | dead => simp only [q] at z; exact z.elim
        | lst xs =>
          simp only [q] at z
          obtain ⟨ws, hv, _, rr⟩ := s.obj l n _ p q e
          cases q2 : f xs with
          | none => simp only [q2] at z; exact z.elim
          | some ns => simp only [q2] at z; exact ⟨_, _, xs, ns, rfl, SqL.of hv, rr, q2, z⟩
  · exact z.elim
def gSum := gFold toInts fun ns => .int ns.sum
def gAll := gFold toBls fun ns => .bl (ns.all id)
def gAny := gFold toBls fun ns => .bl (ns.any id)
theorem ks_sum (hc : X.calm = true) : KS X (.builtin "sum") gSum := by
  refine ⟨_, cr_sum hc, fun W σ φ H S ds vs Q s r z => ?_⟩
  obtain ⟨a, ws, xs, ns, rfl, h1, h2, h3, z⟩ := fold_of s r z
  rw [toInts_eq h3] at h2
  rw [RelL.ints_inv h2] at h1
  exact ⟨a, ns, rfl, h1, z φ H _ (Le.refl _ _) s (.int _)⟩
theorem ks_all (hc : X.calm = true) : KS X (.builtin "all") gAll := by
  refine ⟨_, cr_all hc, fun W σ φ H S ds vs Q s r z => ?_⟩
  obtain ⟨a, ws, xs, ns, rfl, h1, h2, h3, z⟩ := fold_of s r z
  rw [toBls_eq h3] at h2
  rw [RelL.bls_inv h2] at h1
  exact ⟨a, ns, rfl, h1, z φ H _ (Le.refl _ _) s (.bl _)⟩
theorem ks_any (hc : X.calm = true) : KS X (.builtin "any") gAny := by
  refine ⟨_, cr_any hc, fun W σ φ H S ds vs Q s r z => ?_⟩
  obtain ⟨a, ws, xs, ns, rfl, h1, h2, h3, z⟩ := fold_of s r z
  rw [toBls_eq h3] at h2
  rw [RelL.bls_inv h2] at h1
  exact ⟨a, ns, rfl, h1, z φ H _ (Le.refl _ _) s (.bl _)⟩
def gTuple : List D → Sto → R D
  | [.tup xs], S => .ok (.tup xs) S
  | [.lst xs], S => .ok (.tup xs) S
  | [.rol xs], S => .ok (.tup xs) S
  | [.ref l n], S => match look S l n with
    | some (.lst xs) => .ok (.tup xs) S
    | _ => .bad
  | _, _ => .bad
theorem ks_tuple : KS X (.type "tuple") gTuple := by
  refine ⟨_, call_tuple_of, fun W σ φ H S ds vs Q s r z => ?_⟩
  unfold gTuple at z
  split at z
  · obtain ⟨v, rfl, r1⟩ := relL1 r rfl
    cases r1 with
    | tup zz f rr => exact ⟨_, _, rfl, .inr ⟨f.sq, z φ H _ (Le.refl _ _) s (.tup zz f rr)⟩⟩
  · obtain ⟨v, rfl, r1⟩ := relL1 r rfl
    cases r1 with
    | lst zz f w rr => exact ⟨_, _, rfl, .inl ⟨SqL.of f, fun p hp => z φ _ _ (Le.fresh hp) (s.laid hp) (.tup zz (.inl ⟨.inl upd_same, s.fresh hp⟩) (rr.laid hp))⟩⟩
  · obtain ⟨v, rfl, r1⟩ := relL1 r rfl
    cases r1 with
    | rol zz f rr => exact ⟨_, _, rfl, .inl ⟨f.sq, fun p hp => z φ _ _ (Le.fresh hp) (s.laid hp) (.tup zz (.inl ⟨.inl upd_same, s.fresh hp⟩) (rr.laid hp))⟩⟩
  · rename_i l n
    obtain ⟨v, rfl, r1⟩ := relL1 r rfl
    cases r1 with
    | ref e =>
      rename_i p0
      cases q : look S l n with
      | none => simp only [q] at z; exact z.elim
      | some o =>
        cases o with
        | dead => simp only [q] at z; exact z.elim
        | lst xs =>
          simp only [q] at z
          obtain ⟨vs, hv, zz, rr⟩ := s.obj l n _ p0 q e
          exact ⟨_, _, rfl, .inl ⟨SqL.of hv, fun p hp => z φ _ _ (Le.fresh hp) (s.laid hp) (.tup zz (.inl ⟨.inl upd_same, s.fresh hp⟩) (rr.laid hp))⟩⟩
  · exact z.elim
def gList : List D → Sto → R D
  | [.tup xs], S => .ok (.lst xs) S
  | [.lst xs], S => .ok (.lst xs) S
  | [.rol xs], S => .ok (.lst xs) S
  | [.ref l n], S => match look S l n with
    | some (.lst xs) => .ok (.lst xs) S
    | _ => .bad
  | _, _ => .bad
theorem ks_list : KS X (.type "list") gList := by
  refine ⟨_, call_list_of, fun W σ φ H S ds vs Q s r z => ?_⟩
  unfold gList at z
  split at z
  · obtain ⟨v, rfl, r1⟩ := relL1 r rfl
    cases r1 with
    | tup zz f rr => exact ⟨_, _, rfl, .inr f.sq, fun p hp => z φ _ _ (Le.fresh hp) (s.laid hp) (.lst zz upd_same (s.fresh hp) (rr.laid hp))⟩
  · obtain ⟨v, rfl, r1⟩ := relL1 r rfl
    cases r1 with
    | lst zz f w rr => exact ⟨_, _, rfl, .inl (SqL.of f), fun p hp => z φ _ _ (Le.fresh hp) (s.laid hp) (.lst zz upd_same (s.fresh hp) (rr.laid hp))⟩
  · obtain ⟨v, rfl, r1⟩ := relL1 r rfl
    cases r1 with
    | rol zz f rr => exact ⟨_, _, rfl, .inl f.sq, fun p hp => z φ _ _ (Le.fresh hp) (s.laid hp) (.lst zz upd_same (s.fresh hp) (rr.laid hp))⟩
  · rename_i l n
    obtain ⟨v, rfl, r1⟩ := relL1 r rfl
    cases r1 with
    | ref e =>
      rename_i p0
      cases q : look S l n with
      | none => simp only [q] at z; exact z.elim
      | some o =>
        cases o with
        | dead => simp only [q] at z; exact z.elim
        | lst xs =>
          simp only [q] at z
          obtain ⟨vs, hv, zz, rr⟩ := s.obj l n _ p0 q e
          exact ⟨_, _, rfl, .inl (SqL.of hv), fun p hp => z φ _ _ (Le.fresh hp) (s.laid hp) (.lst zz upd_same (s.fresh hp) (rr.laid hp))⟩
  · exact z.elim
/-- the same, a list that will be changed -/
def gListN (k : Nat) : List D → Sto → R D := fun ds S => (gList ds S).bind fun d S => match d with
  | .lst xs => match newAt k S (.lst xs) with
    | some (l, i, S') => if D.les l xs = true then .ok (.ref l i) S' else .bad
    | none => .bad
  | _ => .bad
theorem newN {K : PySem.W.Frag} {mg : Str → Option Value} {φ : Phi} {H : Hp} {S : Sto} {xs : List D} {vs : List V} {k : Nat} {E : Value → Option Addr → Hp → Prop} {Q : VK} (s : RS K φ H S) (zz : vs.length ≤ sizeLine) (rr : RelL K φ H xs vs)
    (z : Ok K mg (Rel K) φ H E Q (match newAt k S (.lst xs) with
    | some (l, i, S') => if D.les l xs = true then .ok (.ref l i) S' else .bad
    | none => .bad)) : ∀ p, H p = none → Q (.ref p) (upd H p (.lst vs)) := by
  intro p hp
  cases q : newAt k S (.lst xs) with
  | none => simp only [q] at z; exact z.elim
  | some t =>
    obtain ⟨l, i, S'⟩ := t
    simp only [q] at z
    by_cases hle : D.les l xs = true
    · simp only [hle, if_true] at z
      obtain ⟨φ', le, s', hq⟩ := s.newed (u := .lst vs) hp q hle fun φ' le => ⟨vs, upd_same, zz, rr.mono le⟩
      exact z φ' _ _ le s' (.ref hq)
    · simp only [hle] at z
      exact z.elim
theorem ks_listN (k : Nat) : KS X (.type "list") (gListN k) := by
  refine ⟨_, call_list_of, fun W σ φ H S ds vs Q s r z => ?_⟩
  unfold gListN gList at z
  split at z
  · obtain ⟨v, rfl, r1⟩ := relL1 r rfl
    cases r1 with
    | tup zz f rr => exact ⟨_, _, rfl, .inr f.sq, newN s zz rr z⟩
  · obtain ⟨v, rfl, r1⟩ := relL1 r rfl
    cases r1 with
    | lst zz f w rr => exact ⟨_, _, rfl, .inl (SqL.of f), newN s zz rr z⟩
  · obtain ⟨v, rfl, r1⟩ := relL1 r rfl
    cases r1 with
    | rol zz f rr => exact ⟨_, _, rfl, .inl f.sq, newN s zz rr z⟩
  · rename_i l n
    obtain ⟨v, rfl, r1⟩ := relL1 r rfl
    cases r1 with
    | ref e =>
      rename_i p0
      cases q : look S l n with
      | none => simp only [q] at z; exact z.elim
      | some o =>
        cases o with
        | dead => simp only [q] at z; exact z.elim
        | lst xs =>
          simp only [q] at z
          obtain ⟨vs, hv, zz, rr⟩ := s.obj l n _ p0 q e
          exact ⟨_, _, rfl, .inl (SqL.of hv), newN s zz rr z⟩
  · exact z.elim
/-! ### isinstance with a built-in class -/
def D.tyName : D → Sto → String
  | .non, _ => "NoneType"
  | .bl _, _ => "bool"
  | .int _, _ => "int"
  | .str _, _ => "str"
  | .ty _, _ => "type"
  | .tup _, _ => "tuple"
  | .lst _, _ => "list"
  | .rol _, _ => "list"
  | .ref l n, S => match look S l n with
    | some (.lst _) => "list"
    | _ => ""
def gIsi : List D → Sto → R D
  | [x, .ty n], S => if x.tyName S = "type" ∨ x.tyName S = "" then .bad else match kitB (x.tyName S) n with
    | some b => .ok (.bl b) S
    | none => .bad
  | _, _ => .bad
theorem tyX_of {φ : Phi} {H : Hp} {S : Sto} {d : D} {v : V} (s : RS X.K φ H S) (r : Rel X.K φ H d v) (h : ¬ (d.tyName S = "type" ∨ d.tyName S = "")) : TyX X.K H v (.type (d.tyName S)) := by
  cases r with
  | non => exact .base .non
  | bl b => exact .base (.bl b)
  | int i => exact .base (.int i)
  | str x => exact .base (.str x)
  | ty n => exact absurd (.inl rfl) h
  | tup zz f rr =>
    rcases f with ⟨f | ⟨o, f⟩, _⟩ | f
    · exact .base (.tup f)
    · exact .fTuple f
    · rcases f with (f | ⟨_, f⟩) | ⟨o, its, n, h1, h2, _⟩
      · cases f
      · cases f
      · exact .kTuple h1 h2
  | lst zz f w rr => exact .base (.lst f)
  | rol zz f rr =>
    rcases f with ⟨f | ⟨o, f⟩, _⟩ | f
    · exact .base (.lst f)
    · exact .base (.frz f)
    · rcases f with (f | ⟨_, f⟩) | ⟨o, its, n, h1, h2, _⟩
      · cases f
      · cases f
      · exact .kList h1 h2
  | ref e =>
    rename_i l n p
    unfold D.tyName at h ⊢
    cases q : look S l n with
    | none => simp [q] at h
    | some o =>
      cases o with
      | dead => simp [q] at h
      | lst xs =>
        obtain ⟨vs, hv, _, _⟩ := s.obj l n _ p q e
        simp only [q]
        exact .base (.lst hv)
theorem ks_isi : KS X (.builtin "isinstance") gIsi := by
  refine ⟨_, call_isi, fun W σ φ H S ds vs Q s r z => ?_⟩
  unfold gIsi at z
  split at z
  · rename_i x n
    obtain ⟨v, w, rfl, r1, r2⟩ := relL2 r rfl
    cases r2
    by_cases h : x.tyName S = "type" ∨ x.tyName S = ""
    · simp only [h, if_true] at z; exact z.elim
    · simp only [h, if_false] at z
      cases q : kitB (x.tyName S) n with
      | none => simp only [q] at z; exact z.elim
      | some b =>
        simp only [q] at z
        exact ⟨v, .ty n, _, _, b, rfl, .ty n, tyX_of s r1 h, kit_ty q, z φ H _ (Le.refl _ _) s (.bl b)⟩
  · exact z.elim
end
end MP

/-! MP: comprehensions, calls, defs, the law's end. -/
namespace MP
open PySem PySem.Spec PyProof.Rows L2

/-! ### comprehensions -/
def R.calm {α : Type} : R α → R α
  | .err _ _ => .bad
  | r => r
@[simp] theorem R.calm_ok {α : Type} (a : α) (S : Sto) : (R.ok a S).calm = .ok a S := (rfl)
@[simp] theorem R.calm_bad {α : Type} : (R.bad : R α).calm = .bad := (rfl)
def wipeR (ρ : Ro) : List Nat → Ro
  | [] => ρ
  | v :: vs => (wipeR ρ vs).set v none
theorem RE.wipe {K : PySem.W.Frag} {φ : Phi} {H : Hp} {ρ : Ro} {σ : L2.St} (h : RE K φ H ρ σ) : ∀ vs : List Nat, RE K φ H (wipeR ρ vs) (L2.wipe σ vs)
  | [] => h
  | v :: vs => by
    have ih := RE.wipe h vs
    show RE K φ H ((wipeR ρ vs).set v none) ((L2.wipe σ vs).set v none)
    refine ⟨by simpa using ih.1, fun j d q => ?_⟩
    by_cases e : v = j
    · subst e
      have hl : v < (wipeR ρ vs).length := by
        have := (List.getElem?_eq_some_iff.mp q).1
        simpa using this
      rw [List.getElem?_set_self hl] at q
      cases q
    · rw [List.getElem?_set_ne e] at q
      rw [List.getElem?_set_ne e]
      exact ih.2 j d q
def lcL (t : Tg) (q : CT) (e : C) (ρ : Ro) : List D → Sto → R (List D)
  | [], S => .ok [] S
  | d :: ds, S => match t d ρ with
    | some ρ1 => (q ρ1 S).calm.bind fun k S1 => if k = true then (e ρ1 S1).calm.bind fun y S2 => (lcL t q e ρ ds S2).bind fun ys S3 => .ok (y :: ys) S3 else lcL t q e ρ ds S1
    | none => .bad
def ctYes : CT := fun _ S => .ok true S
/-- [e for t in iter if q], a list that isn't changed any more -/
def cLc (ci : CI) (t : Tg) (q : CT) (e : C) (vs : List Nat) : C := fun ρ S => (ci ρ S).bind fun ds S => if ds.length ≤ 16000000 then (lcL t q e (wipeR ρ vs) ds S).bind fun ys S => .ok (.lst ys) S else .bad
structure MTs (X : Cx) (W : WX) (es : List Expr) (c : CT) : Prop where
  pt : PTs X es (rdT X W c)
theorem _root_.L2.PTs.imp {X : Cx} {es : List Expr} {t u : TT} (h : PTs X es t) (k : ∀ σ H Q, u σ H Q → t σ H Q) : PTs X es u := ⟨fun pins s σ H Q I z => h.run pins s σ H Q I (k σ H Q z)⟩
theorem mts_nil {X : Cx} {W : WX} : MTs X W [] ctYes := ⟨pts_nil.imp fun σ H Q h => by
  obtain ⟨ρ, φ, S, hE, hs, h⟩ := h
  exact h φ H true (Le.refl _ _) hs rfl⟩
theorem mts_one {X : Cx} {W : WX} {e : Expr} {c : CT} (h : MT X W e c) : MTs X W [e] c := ⟨pts_one h.pt⟩
/-- nothing is let out -/
abbrev W0 : WX := fun _ _ _ _ => False
section
variable {K : PySem.W.Frag} {φ : Phi} {H : Hp} {S : Sto} {p : Addr}
/-- a private list begins -/
theorem Le.prive (hp : H p = none) (u : HO) : Le φ H ⟨φ.r, p :: φ.p⟩ (upd H p u) :=
  ⟨rfl, fun _ _ _ e => e, fun a w e aw => ⟨upd_some hp e, aw.1, fun z => by
    rcases List.mem_cons.mp z with z | z
    · rw [z, hp] at e; cases e
    · exact aw.2 z⟩, fun _ e => List.mem_cons_of_mem _ e, fun a w _ e => upd_some hp e⟩
theorem RS.prive (s : RS K φ H S) (hp : H p = none) (u : HO) : RS K ⟨φ.r, p :: φ.p⟩ (upd H p u) S := by
  have le : Le φ H ⟨φ.r, p :: φ.p⟩ (upd H p u) := Le.prive hp u
  refine ⟨s.shape, fun l i o a e1 e2 => ?_, s.inj, s.lev, fun l i a e => ?_, fun a e => ?_, fun l i a e z => ?_⟩
  · have := s.obj l i o a e1 e2
    cases o with
    | lst ds =>
      obtain ⟨vs, v1, v2, v3⟩ := this
      exact ⟨vs, upd_some hp v1, v2, v3.mono le⟩
    | dead => trivial
  · have := s.trk _ _ _ e
    cases z : H a with
    | none => exact absurd z this
    | some w => rw [upd_some hp z]; simp
  · rcases List.mem_cons.mp e with e | e
    · rw [e, upd_same]; simp
    · have := s.ptrk a e
      cases z : H a with
      | none => exact absurd z this
      | some w => rw [upd_some hp z]; simp
  · rcases List.mem_cons.mp z with z | z
    · rw [z] at e
      exact (s.fresh hp).1 _ _ e
    · exact s.dis _ _ _ e z
/-- a private list is changed -/
theorem Le.priv (s : RS K φ H S) (hp : p ∈ φ.p) (u : HO) (φ0 : Phi) (H0 : Hp) (h0 : H0 p = none) (e : Le φ0 H0 φ H) : Le φ0 H0 φ (upd H p u) :=
  ⟨e.dep, e.grow, fun a w q aw => ⟨by rw [upd_ne (ne_of_none q h0)]; exact (e.stay a w q aw).1, (e.stay a w q aw).2⟩, e.prv, fun a w q z => by rw [upd_ne (ne_of_none z h0)]; exact e.pst a w q z⟩
mutual
theorem Rel.priv (u : HO) (hp : p ∈ φ.p) : ∀ {d : D} {v : V}, Rel K φ H d v → Rel K φ (upd H p u) d v
  | _, _, .non => .non
  | _, _, .bl b => .bl b
  | _, _, .int i => .int i
  | _, _, .str x => .str x
  | _, _, .ty n => .ty n
  | _, _, .tup z f r => .tup z (by
      rcases f with ⟨f, w⟩ | f
      · refine .inl ⟨?_, w⟩
        have ne : ∀ a, Away φ a → a ≠ p := fun a aw z => by rw [z] at aw; exact aw.2 hp
        rcases f with f | ⟨o, f⟩
        · exact .inl (by rw [upd_ne (ne _ w)]; exact f)
        · exact .inr ⟨o, by rw [upd_ne (ne _ w)]; exact f⟩
      · exact .inr f) (RelL.priv u hp r)
  | _, _, .lst z f w r => .lst z (by rw [upd_ne (fun z => by rw [z] at w; exact w.2 hp)]; exact f) w (RelL.priv u hp r)
  | _, _, .rol z f r => .rol z (by
      rcases f with ⟨f, w⟩ | f
      · refine .inl ⟨?_, w⟩
        have ne : ∀ a, Away φ a → a ≠ p := fun a aw z => by rw [z] at aw; exact aw.2 hp
        rcases f with f | ⟨o, f⟩
        · exact .inl (by rw [upd_ne (ne _ w)]; exact f)
        · exact .inr ⟨o, by rw [upd_ne (ne _ w)]; exact f⟩
      · exact .inr f) (RelL.priv u hp r)
  | _, _, .ref h => .ref h
theorem RelL.priv (u : HO) (hp : p ∈ φ.p) : ∀ {ds : List D} {vs : List V}, RelL K φ H ds vs → RelL K φ (upd H p u) ds vs
  | _, _, .nil => .nil
  | _, _, .cons h r => .cons (Rel.priv u hp h) (RelL.priv u hp r)
end
theorem RS.priv (s : RS K φ H S) (hp : p ∈ φ.p) (u : HO) : RS K φ (upd H p u) S := by
  refine ⟨s.shape, fun l i o a e1 e2 => ?_, s.inj, s.lev, fun l i a e => ?_, fun a e => ?_, s.dis⟩
  · have na : a ≠ p := fun z => by rw [z] at e2; exact s.dis _ _ _ e2 hp
    have := s.obj l i o a e1 e2
    cases o with
    | lst ds =>
      obtain ⟨vs, v1, v2, v3⟩ := this
      exact ⟨vs, by rw [upd_ne na]; exact v1, v2, v3.priv u hp⟩
    | dead => trivial
  · have na : a ≠ p := fun z => by rw [z] at e; exact s.dis _ _ _ e hp
    rw [upd_ne na]
    exact s.trk _ _ _ e
  · by_cases q : a = p
    · rw [q, upd_same]; simp
    · rw [upd_ne q]; exact s.ptrk _ e
theorem RE.priv {ρ : Ro} {σ : L2.St} (h : RE K φ H ρ σ) (hp : p ∈ φ.p) (u : HO) : RE K φ (upd H p u) ρ σ :=
  ⟨h.1, fun i d q => let ⟨v, a, b⟩ := h.2 i d q; ⟨v, a, b.priv u hp⟩⟩
/-- it is private no more -/
def Phi.out (φ : Phi) (p : Addr) : Phi := ⟨φ.r, φ.p.filter (· ≠ p)⟩
theorem Away.out {a : Addr} (h : Away φ a) : Away (φ.out p) a := ⟨h.1, fun z => h.2 (List.mem_filter.mp z).1⟩
mutual
theorem Rel.out : ∀ {d : D} {v : V}, Rel K φ H d v → Rel K (φ.out p) H d v
  | _, _, .non => .non
  | _, _, .bl b => .bl b
  | _, _, .int i => .int i
  | _, _, .str x => .str x
  | _, _, .ty n => .ty n
  | _, _, .tup z f r => .tup z (by
      rcases f with ⟨f, w⟩ | f
      · exact .inl ⟨f, w.out⟩
      · exact .inr f) (RelL.out r)
  | _, _, .lst z f w r => .lst z f w.out (RelL.out r)
  | _, _, .rol z f r => .rol z (by
      rcases f with ⟨f, w⟩ | f
      · exact .inl ⟨f, w.out⟩
      · exact .inr f) (RelL.out r)
  | _, _, .ref h => .ref h
theorem RelL.out : ∀ {ds : List D} {vs : List V}, RelL K φ H ds vs → RelL K (φ.out p) H ds vs
  | _, _, .nil => .nil
  | _, _, .cons h r => .cons (Rel.out h) (RelL.out r)
end
theorem RS.out (s : RS K φ H S) : RS K (φ.out p) H S := by
  refine ⟨s.shape, fun l i o a e1 e2 => ?_, s.inj, s.lev, s.trk, fun a e => s.ptrk a (List.mem_filter.mp e).1, fun l i a e z => s.dis l i a e (List.mem_filter.mp z).1⟩
  have := s.obj l i o a e1 e2
  cases o with
  | lst ds =>
    obtain ⟨vs, v1, v2, v3⟩ := this
    exact ⟨vs, v1, v2, v3.out⟩
  | dead => trivial
theorem Le.out {φ0 : Phi} {H0 : Hp} (s0 : RS K φ0 H0 S) (h0 : H0 p = none) (e : Le φ0 H0 φ H) : Le φ0 H0 (φ.out p) H :=
  ⟨e.dep, e.grow, fun a w q aw => ⟨(e.stay a w q aw).1, (e.stay a w q aw).2.out⟩, fun a q => List.mem_filter.mpr ⟨e.prv a q, by
    have := s0.ptrk a q
    simp only [ne_eq, decide_not, Bool.not_eq_eq_eq_not, Bool.not_true, decide_eq_false_iff_not]
    intro z
    rw [z] at this
    exact this h0⟩, e.pst⟩
end
theorem lc_imp {X : Cx} {W : WX} {B : Cx → Prop} {t : Tg} {sl : List Nat} {g : TG} {q : CT} {e : C} {ci : CI} {vs : List Nat} (gs : GS X.K g t sl) (hsl : ∀ i ∈ sl, i ∈ vs) {tt : TT} {te : TE}
    (htt : ∀ σ H Q, (∃ ρ φ S, RE X.K φ H ρ σ ∧ RS X.K φ H S ∧ Ok X.K X.mg eqB φ H (fun _ _ _ => False) Q (q ρ S)) → tt σ H Q)
    (hte : ∀ σ H Q, (∃ ρ φ S, RE X.K φ H ρ σ ∧ RS X.K φ H S ∧ Ok X.K X.mg (Rel X.K) φ H (fun _ _ _ => False) Q (e ρ S)) → te σ H Q)
    {σ : L2.St} {H : Hp} {Q : VK} (h : rdE X W (cLc ci t q e vs) σ H Q) : tLc (rdI X W ci) g tt te vs σ H Q := by
  obtain ⟨ρ, φ, S, hE, hs, h⟩ := h
  refine ⟨ρ, φ, S, hE, hs, h.step fun ds S1 φ1 H1 J qq l s ir z => ?_⟩
  intro P hP
  by_cases hlen : ds.length ≤ 16000000
  case neg =>
    simp only [hlen, if_false] at z
    exact z.elim
  simp only [hlen, if_true] at z
  have hE1 := hE.mono l
  have leP : Le φ1 H1 ⟨φ1.r, P :: φ1.p⟩ (upd H1 P (.lst [])) := Le.prive hP _
  refine ⟨fun i m H' => i + m = ds.length ∧ ∃ φ' S' ys ws, Le φ1 H1 φ' H' ∧ P ∈ φ'.p ∧ RE X.K φ' H' (wipeR ρ vs) (L2.wipe σ vs) ∧ RS X.K φ' H' S' ∧ H' P = some (.lst ws) ∧ RelL X.K φ' H' ys ws ∧ ws.length ≤ i ∧
      Ok X.K X.mg (Rel X.K) φ1 H1 (fun cls d H' => W cls d σ H') Q ((lcL t q e (wipeR ρ vs) (ds.drop i) S').bind fun zs S => .ok (.lst (ys ++ zs)) S),
    ⟨ds.length, by omega, _, S1, [], [], leP, List.mem_cons_self, (hE1.mono leP).wipe vs, s.prive hP _, upd_same, .nil, by simp, z⟩, ?_⟩
  rintro i m H' ⟨em, φ', S', ys, ws, l', mp, hE', s', hP', rr, hwl, z⟩
  by_cases hi : i < ds.length
  · have hd : ds.drop i = ds[i] :: ds.drop (i + 1) := List.drop_eq_getElem_cons hi
    rw [hd] at z
    unfold lcL at z
    cases qt : t ds[i] (wipeR ρ vs) with
    | none => simp only [qt] at z; exact z.elim
    | some ρ1 =>
      simp only [qt] at z
      refine .inr ⟨ir.go φ' H' l' i hi, fun H4 => ∃ φ' S' ys ws, Le φ1 H1 φ' H4 ∧ P ∈ φ'.p ∧ RE X.K φ' H4 (wipeR ρ vs) (L2.wipe σ vs) ∧ RS X.K φ' H4 S' ∧ H4 P = some (.lst ws) ∧ RelL X.K φ' H4 ys ws ∧ ws.length ≤ i + 1 ∧
        Ok X.K X.mg (Rel X.K) φ1 H1 (fun cls d H' => W cls d σ H') Q ((lcL t q e (wipeR ρ vs) (ds.drop (i + 1)) S').bind fun zs S => .ok (.lst (ys ++ zs)) S), fun H4 n => ⟨m - 1, by omega, by omega, n⟩, fun x H4 y => ?_⟩
      obtain ⟨l4, s4, rx⟩ := ir.yld φ' H' S' l' s' i ds[i] x H4 (by simp [hi]) y
      refine gs.go φ' H4 _ x (wipeR ρ vs) ρ1 (L2.wipe σ vs) _ rx (hE'.mono l4) qt fun σ1 re1 only => ⟨by rw [only vs hsl, wipe_idem], htt _ _ _ ⟨ρ1, φ', S', re1, s4, ?_⟩⟩
      have hP4 : H4 P = some (.lst ws) := l4.pst P _ mp hP'
      have rr4 := RelL.mono l4 rr
      cases q1 : q ρ1 S' with
      | bad => rw [q1] at z; exact z.elim
      | err x S2 => rw [q1] at z; exact z.elim
      | ok k S2 =>
        simp only [q1, R.calm_ok, R.bind_ok] at z
        intro φ5 H5 k' l5 s5 ek
        cases ek
        have mp5 := l5.prv P mp
        have hP5 : H5 P = some (.lst ws) := l5.pst P _ mp hP4
        have lt5 : Le φ1 H1 φ5 H5 := (l'.trans l4).trans l5
        cases k with
        | false =>
          simp only [Bool.false_eq_true, if_false] at z ⊢
          exact ⟨φ5, S2, ys, ws, lt5, mp5, ((hE'.mono l4).mono l5), s5, hP5, RelL.mono l5 rr4, by omega, z⟩
        | true =>
          simp only [if_true] at z ⊢
          refine hte _ _ _ ⟨ρ1, φ5, S2, re1.mono l5, s5, ?_⟩
          cases q2 : e ρ1 S2 with
          | bad => rw [q2] at z; exact z.elim
          | err x S3 => rw [q2] at z; exact z.elim
          | ok yv S3 =>
            simp only [q2, R.calm_ok, R.bind_ok] at z
            intro φ6 H6 v l6 s6 rv
            have mp6 := l6.prv P mp5
            have hP6 : H6 P = some (.lst ws) := l6.pst P _ mp5 hP5
            have lt6 := lt5.trans l6
            refine ⟨ws, hP6, line_gt (by omega), φ6, S3, ys ++ [yv], ws ++ [v], Le.priv s6 mp6 _ φ1 H1 hP lt6, mp6, ?_, s6.priv mp6 _, upd_same, ?_, by simp; omega, ?_⟩
            · exact (((hE'.mono l4).mono l5).mono l6).priv mp6 _
            · exact RelL.priv _ mp6 ((RelL.mono l6 (RelL.mono l5 rr4)).append (.cons rv .nil))
            · revert z
              cases lcL t q e (wipeR ρ vs) (ds.drop (i + 1)) S3 with
              | ok zs S4 =>
                simp only [R.bind_ok, List.append_assoc, List.cons_append, List.nil_append]
                exact id
              | err x S4 => exact id
              | bad => exact id
  · have e2 : i = ds.length := by omega
    subst e2
    rw [List.drop_length] at z
    simp only [lcL, R.bind_ok, List.append_nil] at z
    refine .inl ⟨ir.stop φ' H' l', z (φ'.out P) H' _ (Le.out s hP l') s'.out (.lst (line_ge (by omega)) hP' ⟨fun lv j e => s'.dis lv j P e mp, fun q => ?_⟩ (RelL.out rr))⟩
    have := (List.mem_filter.mp q).2
    simp at this
section
variable {X : Cx} {W : WX} {elt tg iter : Expr} {ifs : List Expr} {scope : Scope} {own : List (Str × Nat)} {pos : Pos} {ci : CI} {t : Tg} {sl : List Nat} {q : CT} {e : C}
/-- what a block's context is -/
abbrev Blk (X : Cx) (scope : Scope) (B : Cx → Prop) : Prop := ∀ (s : Shared) (H : Hp) (C : Addr) (cl : List (Str × Addr)) (fp : List Addr), B (X.blk s H scope (compEnvC scope cl C X.env) fp)
theorem me_lc (hc : X.calm = true) (hN : X.N.Nodup) (hi : MI X W tg iter ci) (ok : BlkOk X.N X.env.scope scope own)
    (hg : ∃ g, GS X.K g t sl ∧ Blk X scope fun Y => PG Y tg g) (ht : Blk X scope fun Y => MTs Y W0 ifs q) (he : Blk X scope fun Y => ME Y W0 elt e) (hsl : ∀ i ∈ sl, i ∈ own.map (·.2) := by decide) (hs : ∀ x, foldedSetIterable iter X.env x = pure x := by intro _; rfl) :
    ME X W (.ListComp elt [⟨tg, iter, ifs, 0⟩] scope pos) (cLc ci t q e (own.map (·.2))) := by
  obtain ⟨g, gs, hg⟩ := hg
  let tt : TT := fun σ H Q => ∃ ρ φ S, RE X.K φ H ρ σ ∧ RS X.K φ H S ∧ Ok X.K X.mg eqB φ H (fun _ _ _ => False) Q (q ρ S)
  let te : TE := fun σ H Q => ∃ ρ φ S, RE X.K φ H ρ σ ∧ RS X.K φ H S ∧ Ok X.K X.mg (Rel X.K) φ H (fun _ _ _ => False) Q (e ρ S)
  exact ⟨(pe_lc (tt := tt) (te := te) hc hN hi.pi ok hg (fun s H C cl fp => (ht s H C cl fp).pt) (fun s H C cl fp => (he s H C cl fp).pe) hs).imp fun σ H Q h => lc_imp (B := fun _ => True) gs hsl (fun _ _ _ z => z) (fun _ _ _ z => z) h⟩
theorem ms_setLc (i : Nat) {y : Str} {py spos : Pos} (hc : X.calm = true) (hN : X.N.Nodup) (hy : X.N[i]? = some y) (hyl : X.env.scope.names.lookup y = some .local)
    (hsw : swapsWith (.ListComp elt [⟨tg, iter, ifs, 0⟩] scope pos) (some (.Name y py)) spos.line X.env = pure true) (hi : MI X W tg iter ci) (ok : BlkOk X.N X.env.scope scope own)
    (hg : ∃ g, GS X.K g t sl ∧ Blk X scope fun Y => PG Y tg g) (ht : Blk X scope fun Y => MTs Y W0 ifs q) (he : Blk X scope fun Y => ME Y W0 elt e) (hsl : ∀ i ∈ sl, i ∈ own.map (·.2) := by decide) (hs : ∀ x, foldedSetIterable iter X.env x = pure x := by intro _; rfl) :
    MS X W (.Assign [.Name y py] (.ListComp elt [⟨tg, iter, ifs, 0⟩] scope pos) spos) (cAsg (tgN i) (cLc ci t q e (own.map (·.2)))) := by
  obtain ⟨g, gs, hg⟩ := hg
  let tt : TT := fun σ H Q => ∃ ρ φ S, RE X.K φ H ρ σ ∧ RS X.K φ H S ∧ Ok X.K X.mg eqB φ H (fun _ _ _ => False) Q (q ρ S)
  let te : TE := fun σ H Q => ∃ ρ φ S, RE X.K φ H ρ σ ∧ RS X.K φ H S ∧ Ok X.K X.mg (Rel X.K) φ H (fun _ _ _ => False) Q (e ρ S)
  refine ⟨(L2.ps_setLc (tt := tt) (te := te) (i := i) hc hN hy hyl hsw hi.pi ok hg (fun s H C cl fp => (ht s H C cl fp).pt) (fun s H C cl fp => (he s H C cl fp).pe) hs).imp fun D' σ H h => ?_⟩
  have h2 := asg_imp (te := rdE X W (cLc ci t q e (own.map (·.2)))) (gs_name i) h
  exact lc_imp (B := fun _ => True) gs hsl (fun _ _ _ z => z) (fun _ _ _ z => z) h2
/-- targets in a block -/
theorem bg_name (i : Nat) {x : Str} {pos : Pos} (h : Blk X scope fun Y => PG Y (.Name x pos) (gName i)) : ∃ g, GS X.K g (tgN i) [i] ∧ Blk X scope fun Y => PG Y (.Name x pos) g := ⟨gName i, gs_name i, h⟩
end

/-! ### calls of the program's defs -/
abbrev Sem' := List D → Sto → R D
/-- the promise of a def whose meaning is f -/
def spM (K : PySem.W.Frag) (mg : Str → Option Value) (n : Nat) (f : Sem') : Sp := fun vs H Q E => vs.length = n ∧ ∃ ds φ S, RelL K φ H ds vs ∧ RS K φ H S ∧ Ok K mg (Rel K) φ H E Q (f ds S)
structure FM (P : Program) (w : World) (K : PySem.W.Frag) (mg : Str → Option Value) (base : Heap) (k : Nat) (f : Addr) (fd : FuncData) (ps : List Str) (m : Sem') : Prop where
  ok : FnOk P w K mg base (L2.CX P w) k f fd ps (spM K mg ps.length m)
  kp : PySem.W.keepIn K (.ref f) = true
section
variable {X : Cx} {W : WX} {k : Nat} {f : Addr} {fd : FuncData} {ps : List Str} {m : Sem'} {x : Str} {p pos : Pos} {e : Expr} {es : List Expr} {ca : CA}
theorem me_call (F : FM X.prog X.w X.K X.mg X.base k f fd ps m) (tk : Takes X W) (hr : Room k X.A) (hg : Gl X x) (hm : X.mg x = some (.ref f)) (hb : Binds X.K fd ps []) (ha : MA X W (e :: es) ca)
    (hl : (e :: es).length = ps.length := by rfl) (hdb : (x == ("__debug__" : Str)) = false := by decide) (he : starEach (e :: es) X.env = (false, eval e X.env) :: starEach es X.env := by rfl) (hpl : (backTo pos (starEach es X.env)).any (·.1) = false := by rfl) :
    ME X W (.Call (.Name x p) (e :: es) [] pos) (cCall m ca) := by
  refine ⟨(pe_callS (E := WE W) F.ok hr hg hm F.kp hb (passAt tk) ha.pa hdb he hpl).imp fun σ H Q h => ?_⟩
  obtain ⟨ρ, φ, S, hE, hs, h⟩ := h
  exact ⟨ρ, φ, S, hE, hs, Ok.stepA ha h fun ds S1 φ1 H1 vs l1 l2 l s r z => ⟨by rw [l2]; exact hl, ds, φ1, S1, r, s, z⟩⟩
theorem me_call0 (F : FM X.prog X.w X.K X.mg X.base k f fd [] m) (tk : Takes X W) (hr : Room k X.A) (hg : Gl X x) (hm : X.mg x = some (.ref f)) (hb : Binds X.K fd [] [])
    (hdb : (x == ("__debug__" : Str)) = false := by decide) : ME X W (.Call (.Name x p) [] [] pos) (cCall m caNil) := by
  refine ⟨⟨fun pins s σ H Q I h => ?_⟩⟩
  obtain ⟨ρ, φ, S, hE, hs, h⟩ := h
  refine wpAny_Call_Name_kw (ld_glob I hg hm ?_ hdb)
  refine PySem.W.callWith_K0 I.kIn F.kp ?_
  exact run_fnS (E := WE W) (us := []) (vs := []) F.ok hr hb (passAt tk σ) I .nil ⟨rfl, [], φ, S, .nil, hs, h⟩
end

/-! ### defs -/
/-- what a def hands out: changeable things of its own level become trees -/
def mapO {α : Type} (f : α → Option α) : List α → Option (List α)
  | [] => some []
  | x :: xs => match f x with
    | some y => match mapO f xs with
      | some ys => some (y :: ys)
      | none => none
    | none => none
def D.fz (r : List O) (l : Nat) : Nat → D → Option D
  | 0, _ => none
  | n + 1, d => match d with
    | .ref k i => if k = l then match r[i]? with
        | some (.lst xs) => match mapO (D.fz r l n) xs with
          | some ys => some (.lst ys)
          | none => none
        | _ => none
      else some (.ref k i)
    | .tup xs => match mapO (D.fz r l n) xs with
      | some ys => some (.tup ys)
      | none => none
    | .lst xs => match mapO (D.fz r l n) xs with
      | some ys => some (.lst ys)
      | none => none
    | .rol xs => match mapO (D.fz r l n) xs with
      | some ys => some (.rol ys)
      | none => none
    | d => some d
def leave (d : D) : Sto → R D
  | [] => .bad
  | [] :: S => .ok d S
  | r :: S => match D.fz r S.length 40 d with
    | some d' => .ok d' S
    | none => .bad
def fzF (r : List O) (l : Nat) : List (Str × D) → Option (List (Str × D))
  | [] => some []
  | (x, d) :: fs => match D.fz r l 40 d with
    | some d' => match fzF r l fs with
      | some gs => some ((x, d') :: gs)
      | none => none
    | none => none
def leaveX (x : Exn) : Sto → R D
  | [] => .bad
  | r :: S => match fzF r S.length x.fs with
    | some fs => .err ⟨x.c, fs⟩ S
    | none => .bad
def runF (n : Nat) (body : CS) : Sem' := fun args S => match body (args.map some ++ List.replicate (n - args.length) none) ([] :: S) with
  | .nx _ S' => leave .non S'
  | .ret d S' => leave d S'
  | .err x _ S' => leaveX x S'
  | _ => .bad
section
variable {K : PySem.W.Frag} {φ : Phi} {H : Hp} {S : Sto}
/-- the level is laid down -/
theorem away_push {a : Addr} {ψ : List Addr} (h : Away ⟨ψ :: φ.r, φ.p⟩ a) : Away φ a := ⟨fun l i e => h.1 l i (look_push ψ e), h.2⟩
theorem away_new {a : Addr} (h : Away φ a) : Away ⟨[] :: φ.r, φ.p⟩ a := ⟨fun l i e => by
  have e' : look ([] :: φ.r) l i = some a := e
  rw [look] at e'
  split at e'
  · simp at e'
  · exact h.1 _ _ e', h.2⟩
mutual
theorem Rel.enter : ∀ {d : D} {v : V}, Rel K φ H d v → Rel K ⟨[] :: φ.r, φ.p⟩ H d v
  | _, _, .non => .non
  | _, _, .bl b => .bl b
  | _, _, .int i => .int i
  | _, _, .str x => .str x
  | _, _, .ty n => .ty n
  | _, _, .tup z f r => .tup z (by
      rcases f with ⟨f, w⟩ | f
      · exact .inl ⟨f, away_new w⟩
      · exact .inr f) (RelL.enter r)
  | _, _, .lst z f w r => .lst z f (away_new w) (RelL.enter r)
  | _, _, .rol z f r => .rol z (by
      rcases f with ⟨f, w⟩ | f
      · exact .inl ⟨f, away_new w⟩
      · exact .inr f) (RelL.enter r)
  | _, _, .ref h => .ref (look_push _ h)
theorem RelL.enter : ∀ {ds : List D} {vs : List V}, RelL K φ H ds vs → RelL K ⟨[] :: φ.r, φ.p⟩ H ds vs
  | _, _, .nil => .nil
  | _, _, .cons h r => .cons (Rel.enter h) (RelL.enter r)
end
theorem RO.enter {o : O} {a : Addr} (h : RO K φ H o a) : RO K ⟨[] :: φ.r, φ.p⟩ H o a := by
  cases o with
  | lst ds =>
    obtain ⟨vs, v1, v2, v3⟩ := h
    exact ⟨vs, v1, v2, v3.enter⟩
  | dead => trivial
theorem look_enter {α : Type} {rs : List (List α)} {l i : Nat} {a : α} (e : look ([] :: rs) l i = some a) : look rs l i = some a := by
  rw [look] at e
  split at e
  · simp at e
  · exact e
theorem RS.enter (s : RS K φ H S) : RS K ⟨[] :: φ.r, φ.p⟩ H ([] :: S) :=
  ⟨by simp [s.shape], fun l i o a e1 e2 => (s.obj l i o a (look_enter e1) (look_enter e2)).enter, fun l i l' i' a e1 e2 => s.inj l i l' i' a (look_enter e1) (look_enter e2), fun l i o e => s.lev l i o (look_enter e), fun l i a e => s.trk l i a (look_enter e), s.ptrk, fun l i a e => s.dis l i a (look_enter e)⟩
mutual
/-- what refers to the levels below alone -/
theorem Rel.exit {ψ : List Addr} {l : Nat} (hl : l < φ.r.length) : ∀ {d : D} {v : V}, Rel K ⟨ψ :: φ.r, φ.p⟩ H d v → d.le l = true → Rel K φ H d v
  | _, _, .non, _ => .non
  | _, _, .bl b, _ => .bl b
  | _, _, .int i, _ => .int i
  | _, _, .str x, _ => .str x
  | _, _, .ty n, _ => .ty n
  | _, _, .tup z f r, h => .tup z (by
      rcases f with ⟨f, w⟩ | f
      · exact .inl ⟨f, away_push w⟩
      · exact .inr f) (RelL.exit hl r (by simpa [D.le] using h))
  | _, _, .lst z f w r, h => .lst z f (away_push w) (RelL.exit hl r (by simpa [D.le] using h))
  | _, _, .rol z f r, h => .rol z (by
      rcases f with ⟨f, w⟩ | f
      · exact .inl ⟨f, away_push w⟩
      · exact .inr f) (RelL.exit hl r (by simpa [D.le] using h))
  | _, _, .ref (l := k) (i := i) e, h => .ref (by
      have hk : k ≤ l := by simpa [D.le] using h
      have e' : look (ψ :: φ.r) k i = some _ := e
      rw [look_low ψ i (by omega)] at e'
      exact e')
theorem RelL.exit {ψ : List Addr} {l : Nat} (hl : l < φ.r.length) : ∀ {ds : List D} {vs : List V}, RelL K ⟨ψ :: φ.r, φ.p⟩ H ds vs → D.les l ds = true → RelL K φ H ds vs
  | _, _, .nil, _ => .nil
  | _, _, .cons h r, q => by
    simp only [D.les, Bool.and_eq_true] at q
    exact .cons (Rel.exit hl h q.1) (RelL.exit hl r q.2)
end
theorem RS.exit {ψ : List Addr} {r : List O} (s : RS K ⟨ψ :: φ.r, φ.p⟩ H (r :: S)) : RS K φ H S := by
  have sh := s.shape
  simp only [List.map_cons, List.cons.injEq] at sh
  have hlen : φ.r.length = S.length := by have := congrArg List.length sh.2; simpa using this
  refine ⟨sh.2, fun l i o a e1 e2 => ?_, fun l i l' i' a e1 e2 => s.inj l i l' i' a (look_push ψ e1) (look_push ψ e2), fun l i o e => s.lev l i o (look_push r e), fun l i a e => s.trk l i a (look_push ψ e), s.ptrk, fun l i a e => s.dis l i a (look_push ψ e)⟩
  have h := s.obj l i o a (look_push r e1) (look_push ψ e2)
  have lv := s.lev l i o (look_push r e1)
  have hl : l < φ.r.length := look_lt e2
  cases o with
  | lst ds =>
    obtain ⟨vs, v1, v2, v3⟩ := h
    exact ⟨vs, v1, v2, RelL.exit hl v3 lv⟩
  | dead => trivial
theorem mapO_rel {α β : Type} {f : α → Option α} : True := trivial
theorem Rel.fz {ψ : List Addr} {r : List O} (s : RS K ⟨ψ :: φ.r, φ.p⟩ H (r :: S)) : ∀ (n : Nat) {d d' : D} {v : V}, Rel K ⟨ψ :: φ.r, φ.p⟩ H d v → D.fz r S.length n d = some d' → Rel K φ H d' v := by
  intro n
  have sh := s.shape
  simp only [List.map_cons, List.cons.injEq] at sh
  have hlen : φ.r.length = S.length := by have := congrArg List.length sh.2; simpa using this
  induction n with
  | zero => intro d d' v _ h; cases h
  | succ n ih =>
    have many : ∀ {ds ds' : List D} {vs : List V}, RelL K ⟨ψ :: φ.r, φ.p⟩ H ds vs → mapO (D.fz r S.length n) ds = some ds' → RelL K φ H ds' vs := by
      intro ds
      induction ds with
      | nil =>
        intro ds' vs q h
        cases q
        simp only [mapO, Option.some.injEq] at h
        subst h
        exact .nil
      | cons d ds ihl =>
        intro ds' vs q h
        cases q with
        | cons q1 q2 =>
          unfold mapO at h
          cases z1 : D.fz r S.length n d with
          | none => simp only [z1] at h; cases h
          | some y =>
            simp only [z1] at h
            cases z2 : mapO (D.fz r S.length n) ds with
            | none => simp only [z2] at h; cases h
            | some ys =>
              simp only [z2, Option.some.injEq] at h
              subst h
              exact .cons (ih q1 z1) (ihl q2 z2)
    intro d d' v q h
    cases q with
    | non => cases h; exact .non
    | bl b => cases h; exact .bl b
    | int i => cases h; exact .int i
    | str x => cases h; exact .str x
    | ty n => cases h; exact .ty n
    | tup z f rr =>
      rename_i a vs ds
      unfold D.fz at h
      cases z2 : mapO (D.fz r S.length n) ds with
      | none => simp only [z2] at h; cases h
      | some ys =>
        simp only [z2, Option.some.injEq] at h
        subst h
        refine .tup z ?_ (many rr z2)
        rcases f with ⟨f, w⟩ | f
        · exact .inl ⟨f, away_push w⟩
        · exact .inr f
    | lst z f w rr =>
      rename_i a vs ds
      unfold D.fz at h
      cases z2 : mapO (D.fz r S.length n) ds with
      | none => simp only [z2] at h; cases h
      | some ys =>
        simp only [z2, Option.some.injEq] at h
        subst h
        exact .lst z f (away_push w) (many rr z2)
    | rol z f rr =>
      rename_i a vs ds
      unfold D.fz at h
      cases z2 : mapO (D.fz r S.length n) ds with
      | none => simp only [z2] at h; cases h
      | some ys =>
        simp only [z2, Option.some.injEq] at h
        subst h
        refine .rol z ?_ (many rr z2)
        rcases f with ⟨f, w⟩ | f
        · exact .inl ⟨f, away_push w⟩
        · exact .inr f
    | ref e =>
      rename_i l i a
      unfold D.fz at h
      by_cases hk : l = S.length
      · simp only [hk, if_true] at h
        subst hk
        cases z1 : r[i]? with
        | none => simp only [z1] at h; cases h
        | some o =>
          cases o with
          | dead => simp only [z1] at h; cases h
          | lst xs =>
            simp only [z1] at h
            cases z2 : mapO (D.fz r S.length n) xs with
            | none => simp only [z2] at h; cases h
            | some ys =>
              simp only [z2, Option.some.injEq] at h
              subst h
              obtain ⟨vs, v1, v2, v3⟩ := s.obj S.length i (.lst xs) a (by rw [look_top]; exact z1) e
              refine .lst v2 v1 ⟨fun l' i' e' => ?_, s.dis _ _ _ e⟩ (many v3 z2)
              have hlt := look_lt e'
              have := s.inj _ _ _ _ a e (look_push ψ e')
              omega
      · simp only [hk, if_false, Option.some.injEq] at h
        subst h
        have e' : look (ψ :: φ.r) l i = some a := e
        have hlt := look_lt e'
        simp only [List.length_cons] at hlt
        rw [look_low ψ i (by omega)] at e'
        exact .ref e'
end
theorem Le.exit {φ φ' : Phi} {H H' : Hp} {ψ : List Addr} (e : Le ⟨[] :: φ.r, φ.p⟩ H ⟨ψ :: φ'.r, φ'.p⟩ H') : Le φ H φ' H' := by
  have hd : φ'.r.length = φ.r.length := by have := e.dep; simpa using this
  refine ⟨hd, fun l i a q => ?_, fun a o q w => ?_, e.prv, e.pst⟩
  · have h1 := e.grow l i a (look_push [] q)
    have hlt := look_lt q
    have h1 : look (ψ :: φ'.r) l i = some a := h1
    rw [look_low ψ i (by omega)] at h1
    exact h1
  · obtain ⟨h1, w1⟩ := e.stay a o q (away_new w)
    exact ⟨h1, away_push w1⟩
/-- behind a body -/
theorem leave_ok {K : PySem.W.Frag} {mg : Str → Option Value} {φ φ1 : Phi} {H H1 : Hp} {S1 : Sto} {d : D} {v : V} {E : XK} {Q : VK} (l : Le ⟨[] :: φ.r, φ.p⟩ H φ1 H1) (s : RS K φ1 H1 S1) (r : Rel K φ1 H1 d v)
    (z : Ok K mg (Rel K) φ H E Q (leave d S1)) : Q v H1 := by
  obtain ⟨r1, p1⟩ := φ1
  cases S1 with
  | nil => exact z.elim
  | cons ro S2 =>
    cases r1 with
    | nil => have := l.dep; simp at this
    | cons ψ r2 =>
      have l2 : Le φ H ⟨r2, p1⟩ H1 := Le.exit (φ' := ⟨r2, p1⟩) l
      have s2 : RS K ⟨r2, p1⟩ H1 S2 := RS.exit (φ := ⟨r2, p1⟩) s
      cases ro with
      | nil =>
        have sh := s.shape
        simp only [List.map_cons, List.cons.injEq] at sh
        have e : ψ = [] := by have := sh.1; simpa using this
        subst e
        have hx : ∀ (n : Nat) (d : D) (v : V), Rel K ⟨[] :: r2, p1⟩ H1 d v → Rel K ⟨r2, p1⟩ H1 d v := by
          intro _ d v q
          have go : ∀ {d : D} {v : V}, Rel K ⟨[] :: r2, p1⟩ H1 d v → Rel K ⟨r2, p1⟩ H1 d v := by
            intro d v q
            have := Rel.rec (K := K) (φ := ⟨[] :: r2, p1⟩) (H := H1) (motive_1 := fun d v _ => Rel K ⟨r2, p1⟩ H1 d v) (motive_2 := fun ds vs _ => RelL K ⟨r2, p1⟩ H1 ds vs)
              .non .bl .int .str .ty (fun z f _ ih => .tup z (by
                rcases f with ⟨f, w⟩ | f
                · exact .inl ⟨f, away_push (φ := ⟨r2, p1⟩) w⟩
                · exact .inr f) ih) (fun z f w _ ih => .lst z f (away_push (φ := ⟨r2, p1⟩) w) ih) (fun z f _ ih => .rol z (by
                rcases f with ⟨f, w⟩ | f
                · exact .inl ⟨f, away_push (φ := ⟨r2, p1⟩) w⟩
                · exact .inr f) ih) (fun e => .ref (look_enter e)) .nil (fun _ _ h1 h2 => .cons h1 h2) q
            exact this
          exact go q
        exact z ⟨r2, p1⟩ H1 v l2 s2 (hx 0 d v r)
      | cons o ro =>
        unfold leave at z
        cases q : D.fz (o :: ro) S2.length 40 d with
        | none => simp only [q] at z; exact z.elim
        | some d' =>
          simp only [q] at z
          exact z ⟨r2, p1⟩ H1 v l2 s2 (Rel.fz (φ := ⟨r2, p1⟩) s 40 r q)
theorem fzF_ok {K : PySem.W.Frag} {φ : Phi} {H : Hp} {S : Sto} {ψ : List Addr} {r : List O} (s : RS K ⟨ψ :: φ.r, φ.p⟩ H (r :: S)) : ∀ {fs gs : List (Str × D)} {vs : List (Str × V)}, RF K ⟨ψ :: φ.r, φ.p⟩ H fs vs → fzF r S.length fs = some gs → RF K φ H gs vs
  | [], gs, vs, q, h => by
    simp only [fzF, Option.some.injEq] at h
    subst h
    obtain ⟨q1, q2⟩ := q
    cases vs with
    | nil => exact ⟨rfl, .nil⟩
    | cons _ _ => simp at q1
  | (x, d) :: fs, gs, vs, q, h => by
    unfold fzF at h
    cases z1 : D.fz r S.length 40 d with
    | none => simp only [z1] at h; cases h
    | some d' =>
      simp only [z1] at h
      cases z2 : fzF r S.length fs with
      | none => simp only [z2] at h; cases h
      | some gs' =>
        simp only [z2, Option.some.injEq] at h
        subst h
        obtain ⟨q1, q2⟩ := q
        cases vs with
        | nil => simp at q1
        | cons p vs =>
          obtain ⟨y, v⟩ := p
          simp only [List.map_cons, List.cons.injEq] at q1 q2
          cases q2 with
          | cons q3 q4 =>
            obtain ⟨r1, r2⟩ := fzF_ok s ⟨q1.2, q4⟩ z2
            exact ⟨by simp [q1.1, r1], .cons (Rel.fz s 40 q3 z1) r2⟩
theorem leaveX_ok {K : PySem.W.Frag} {mg : Str → Option Value} {φ φ1 : Phi} {H H1 : Hp} {S1 : Sto} {x : Exn} {cls : Value} {dx : Option Addr} {E : XK} {Q : VK} (l : Le ⟨[] :: φ.r, φ.p⟩ H φ1 H1) (s : RS K φ1 H1 S1) (r : RX K mg φ1 H1 x cls dx)
    (z : Ok K mg (Rel K) φ H E Q (leaveX x S1)) : E cls dx H1 := by
  obtain ⟨r1, p1⟩ := φ1
  cases S1 with
  | nil => exact z.elim
  | cons ro S2 =>
    cases r1 with
    | nil => have := l.dep; simp at this
    | cons ψ r2 =>
      have l2 : Le φ H ⟨r2, p1⟩ H1 := Le.exit (φ' := ⟨r2, p1⟩) l
      have s2 : RS K ⟨r2, p1⟩ H1 S2 := RS.exit (φ := ⟨r2, p1⟩) s
      unfold leaveX at z
      cases q : fzF ro S2.length x.fs with
      | none => simp only [q] at z; exact z.elim
      | some fs =>
        simp only [q] at z
        obtain ⟨a, dd, vs, e1, e2, e3, e4, e5, e6⟩ := r
        exact z ⟨r2, p1⟩ H1 cls dx l2 s2 ⟨a, dd, vs, e1, e2, e3, e4, away_push (φ := ⟨r2, p1⟩) e5, fzF_ok (φ := ⟨r2, p1⟩) s e6 q⟩
/-- what a body stands in -/
structure Cok (X : Cx) (W : WX) (k : Nat) : Prop where
  tk : Takes X W
  po : PassesOwn (model X.prog X.w) X.A X.env X.xe
  calm : X.calm = true
  room : Room k X.A
section
variable {P : Program} {w : World} {K : PySem.W.Frag} {mg : Str → Option Value} {base : Heap}
/-- a def has the meaning of its body -/
theorem fm_of {x qual : Str} {st : Stmt} {f : Addr} {fd : FuncData} {N ps : List Str} {k : Nat} {c : CS} (F : Fun K x qual st f fd) (Sc : FnScope N ps (defScope st))
    (body : ∀ (cdv : Value) (A : Around) (outer : List Env) (s : Shared) (H : Hp) (E : XK), Cok (cxOf (L2.CX P w) P w K mg base N qual (defScope st) f cdv A outer s H E) (fun cls d _ H => E cls d H) k →
      MSs (cxOf (L2.CX P w) P w K mg base N qual (defScope st) f cdv A outer s H E) (fun cls d _ H => E cls d H) (defBody st) c) :
    FM P w K mg base (k + 1) f fd ps (runF N.length c) := by
  refine ⟨F.okX Sc (fun vs H Q E h => h.1) (fun cdv A outer s H vs Q E hr h => ?_), F.kp⟩
  obtain ⟨hl, ds, φ, S, r, st0, h⟩ := h
  have hb := body cdv A outer s H E ⟨takes_of rfl rfl rfl rfl, passes_of rfl, rfl, hr⟩
  refine ⟨_, hb.ps, ds.map some ++ List.replicate (N.length - ds.length) none, ⟨[] :: φ.r, φ.p⟩, [] :: S, ?_, st0.enter, ?_⟩
  · refine ⟨by simp [L2.start, r.length], fun i d q => ?_⟩
    by_cases hi : i < ds.length
    · rw [List.getElem?_append_left (by simpa using hi)] at q
      rw [List.getElem?_map] at q
      cases q2 : ds[i]? with
      | none => rw [q2] at q; cases q
      | some d2 =>
        rw [q2] at q
        cases q
        obtain ⟨v, e1, e2⟩ := r.get q2
        refine ⟨v, ?_, e2.enter⟩
        unfold L2.start
        rw [List.getElem?_append_left (by simpa [← r.length] using hi), List.getElem?_map, e1]
        rfl
    · rw [List.getElem?_append_right (by simpa using hi)] at q
      rw [List.getElem?_replicate] at q
      split at q <;> cases q
  · unfold runF at h
    cases q : c (ds.map some ++ List.replicate (N.length - ds.length) none) ([] :: S) with
    | nx ρ1 S1 =>
      rw [q] at h
      exact fun φ1 H1 σ1 l s re => leave_ok l s .non h
    | ret d S1 =>
      rw [q] at h
      exact fun φ1 H1 v l s rv => leave_ok l s rv h
    | brk ρ1 S1 => rw [q] at h; exact h.elim
    | cnt ρ1 S1 => rw [q] at h; exact h.elim
    | err x ρ1 S1 =>
      rw [q] at h
      exact fun φ1 H1 σ1 cls dx l s re rx => leaveX_ok l s rx h
    | bad => rw [q] at h; exact h.elim
theorem FM.mono {j k : Nat} {f : Addr} {fd : FuncData} {ps : List Str} {m : Sem'} (F : FM P w K mg base j f fd ps m) (h : j ≤ k) : FM P w K mg base k f fd ps m := ⟨F.ok.mono h, F.kp⟩
/-- another meaning that says the same wherever it says something -/
theorem FM.as {k : Nat} {f : Addr} {fd : FuncData} {ps : List Str} {m m' : Sem'} (F : FM P w K mg base k f fd ps m) (h : ∀ ds S, m' ds S = m ds S ∨ m' ds S = .bad) : FM P w K mg base k f fd ps m' :=
  ⟨F.ok.imp fun vs H Q E q => by
    obtain ⟨e, ds, φ, S, r, s, z⟩ := q
    rcases h ds S with q | q
    · rw [q] at z; exact ⟨e, ds, φ, S, r, s, z⟩
    · rw [q] at z; exact z.elim, F.kp⟩
end
/-- no meaning at all -/
theorem fm_bad {P : Program} {w : World} {K : PySem.W.Frag} {mg : Str → Option Value} {base : Heap} {x qual : Str} {st : Stmt} {f : Addr} {fd : FuncData} {ps : List Str} {k : Nat} (F : Fun K x qual st f fd) : FM P w K mg base k f fd ps (fun _ _ => .bad) :=
  ⟨⟨fun vs H Q E h => h.1, fun A outer s H args us vs Q E hr he hb hv h => by
    obtain ⟨_, ds, φ, S, _, _, z⟩ := h
    exact z.elim⟩, F.kp⟩
/-! ### the law -/
/-- what is wanted of a law's def over a script -/
theorem law_end {K : PySem.W.Frag} {mg : Str → Option Value} {m : Sem'} {H : Hp} {a : Addr} {ns : List Int} (hn : ns.length ≤ 63) (hS : SqL K H a (ns.map V.int)) (h : m [.rol (ns.map D.int)] [] = .ok (.bl true) []) :
    spM K mg 1 m [.ref a] H (fun v _ => v = .bl true) (fun _ _ _ => False) := by
  have away : ∀ b, Away ⟨[], []⟩ b := by
    intro b
    constructor
    · intro l i e
      cases e
    · intro z
      cases z
  have rs0 : RS K ⟨[], []⟩ H [] := by
    constructor
    · rfl
    · intro l i o a e; cases e
    · intro l i l' i' a e; cases e
    · intro l i o e; cases e
    · intro l i a e; cases e
    · intro a e; cases e
    · intro l i a e; cases e
  refine ⟨rfl, [.rol (ns.map D.int)], ⟨[], []⟩, [], .cons (.rol ?_ ?_ (RelL.ints ns)) .nil, rs0, ?_⟩
  · rw [List.length_map]
    exact line_ge (by omega)
  · rcases hS with h | h
    · exact .inl ⟨h, away a⟩
    · exact .inr (.inr h)
  · rw [h]
    intro φ' H' v l s r
    cases r
    rfl
theorem law_walk {l : PySem.W.OpenLaw} {k : Nat} {q : Program} {loose : List Str} {XP : (Str → Option Value) → Heap → Prop} {YP : World → Heap → Prop} {d : DefRec} {K : Params → PySem.W.Frag} {m : Sem'} {x : Str}
    (hn : l.most = some 63) (hdf : d.params.defaults = []) (hr : Room k callerA)
    (hY : ∀ (w : World) (h : Heap), YP w h → (K w.params).In h)
    (F : ∀ (w : World) (mg : Str → Option Value) (fa : Addr) (h : Heap), (K w.params).In h → h.Ns mainGlobals mg → mg d.name = some (.ref fa) →
      ∃ fd : FuncData, (∀ (s : Shared) (u : Value), BindsTo s fd ⟨[u], []⟩ [(x, u)]) ∧
        ∀ base : Heap, (K w.params).In base → base.Ns mainGlobals mg → FnOk l.prog w (K w.params) mg base (L2.CX l.prog w) k fa fd [x] (spM (K w.params) mg 1 m))
    (h : ∀ ns : List Int, ns.length ≤ 63 → m [.rol (ns.map D.int)] [] = .ok (.bl true) []) :
    PySem.W.WalkO q loose XP YP l.row.toRowW d [] (fun f vs => PySem.call f vs) := by
  refine walk_of (x := x) (k := k) (CX := fun w => L2.CX l.prog w) (sp := fun w vs H Q E => ∀ mg : Str → Option Value, spM (K w.params) mg 1 m vs H Q E) hn (by rw [sizeLine_eq]; decide) hdf hr hY ?_ ?_ ?_
  · intro w mg fa hh h1 h2 h3
    obtain ⟨fd, hb, hf⟩ := F w mg fa hh h1 h2 h3
    exact ⟨fd, hb, fun base b1 b2 => (hf base b1 b2).imp fun vs H Q E z => z mg⟩
  · intro w H a ns hl _ hS mg
    exact law_end hl hS (h ns hl)
  · intro w H s e s' z
    obtain ⟨_, _, _, _, _, _, _, _, _, _, _, _, z⟩ := z
    exact z
/-! ### a < b < c, as a value and as a test -/
section
variable {X : Cx} {W : WX} {pos : Pos} {a b c : Expr} {ca cb cc : C} {op op' : CmpOp} {g g' : G2}
theorem chain_imp {r r' : R2} (k : ∀ (W : WX) (σ : L2.St) (φ : Phi) (H : Hp) (S : Sto) (x y : D) (vx vy : V) (Q : VK), RS X.K φ H S → Rel X.K φ H x vx → Rel X.K φ H y vy → Ok X.K X.mg (Rel X.K) φ H (fun cls d H' => W cls d σ H') Q (g x y S) → r vx vy H Q)
    (k' : ∀ (W : WX) (σ : L2.St) (φ : Phi) (H : Hp) (S : Sto) (x y : D) (vx vy : V) (Q : VK), RS X.K φ H S → Rel X.K φ H x vx → Rel X.K φ H y vy → Ok X.K X.mg (Rel X.K) φ H (fun cls d H' => W cls d σ H') Q (g' x y S) → r' vx vy H Q)
    {σ : L2.St} {H : Hp} {Q : VK} (h : rdE X W (cChain g g' ca cb cc) σ H Q) : tChain r r' (rdE X W ca) (rdE X W cb) (rdE X W cc) σ H Q := by
  obtain ⟨ρ, φ, S, hE, hs, h⟩ := h
  refine ⟨ρ, φ, S, hE, hs, h.step fun x S1 φ1 H1 vx q l1 s1 rx0 za => ⟨ρ, φ1, S1, hE.mono l1, s1, za.step fun y S2 φ2 H2 vy q2 l2 s2 ry zb => ?_⟩⟩
  have rx := rx0.mono l2
  refine k W σ φ2 H2 S2 x y vx vy _ s2 rx ry (zb.step fun d S3 φ3 H3 v q3 l3 s3 rd z => ?_)
  cases rd <;> try exact z.elim
  rename_i bb
  cases bb with
  | false => exact ⟨false, rfl, by simp only [Bool.false_eq_true, if_false]; exact z φ3 H3 _ (Le.refl _ _) s3 (.bl _)⟩
  | true =>
    refine ⟨true, rfl, ?_⟩
    simp only [if_true]
    refine ⟨ρ, φ3, S3, ((hE.mono l1).mono l2).mono l3, s3, Ok.step z fun w S4 φ4 H4 vw q4 l4 s4 rw' z2 => ?_⟩
    exact k' W σ φ4 H4 S4 y w vy vw Q s4 ((ry.mono l3).mono l4) rw' z2
theorem me_chain (ho : OS X (compareOp op) g) (ho' : OS X (compareOp op') g') (ha : ME X W a ca) (hb : ME X W b cb) (hc : ME X W c cc) (hm : lastMarks [op, op'] [b, c] = false := by with_unfolding_all rfl) :
    ME X W (.Compare a [op, op'] [b, c] pos) (cChain g g' ca cb cc) := by
  obtain ⟨r, hr, k⟩ := ho
  obtain ⟨r', hr', k'⟩ := ho'
  exact ⟨(pe_chain hr hr' ha.pe hb.pe hc.pe hm).imp fun σ H Q h => chain_imp k k' h⟩
theorem mt_chain (ho : OS X (compareOp op) g) (ho' : OS X (compareOp op') g') (ha : ME X W a ca) (hb : ME X W b cb) (hc : ME X W c cc) (hm : lastMarks [op, op'] [b, c] = false := by with_unfolding_all rfl) :
    MT X W (.Compare a [op, op'] [b, c] pos) (cTB (cChain g g' ca cb cc)) := by
  obtain ⟨r, hr, k⟩ := ho
  obtain ⟨r', hr', k'⟩ := ho'
  exact ⟨(pt_chain hr hr' ha.pe hb.pe hc.pe hm).imp fun σ H Q h => chain_imp k k' (rdT_of (t := cTB (cChain g g' ca cb cc)) h)⟩
end
end MP

/-! MP: how meanings are reckoned (simp). -/
namespace MP
open PySem PySem.Spec PyProof.Rows L2

/-! ### isinstance -/
@[simp] theorem kit_ii : kitB "int" "int" = some true := by decide +kernel
@[simp] theorem kit_ib : kitB "int" "bool" = some false := by decide +kernel
@[simp] theorem kit_is : kitB "int" "str" = some false := by decide +kernel
@[simp] theorem kit_it : kitB "int" "tuple" = some false := by decide +kernel
@[simp] theorem kit_il : kitB "int" "list" = some false := by decide +kernel
@[simp] theorem kit_id : kitB "int" "dict" = some false := by decide +kernel
@[simp] theorem kit_bi : kitB "bool" "int" = some true := by decide +kernel
@[simp] theorem kit_bb : kitB "bool" "bool" = some true := by decide +kernel
@[simp] theorem kit_bs : kitB "bool" "str" = some false := by decide +kernel
@[simp] theorem kit_bt : kitB "bool" "tuple" = some false := by decide +kernel
@[simp] theorem kit_bl : kitB "bool" "list" = some false := by decide +kernel
@[simp] theorem kit_bd : kitB "bool" "dict" = some false := by decide +kernel
@[simp] theorem kit_si : kitB "str" "int" = some false := by decide +kernel
@[simp] theorem kit_sb : kitB "str" "bool" = some false := by decide +kernel
@[simp] theorem kit_ss : kitB "str" "str" = some true := by decide +kernel
@[simp] theorem kit_st : kitB "str" "tuple" = some false := by decide +kernel
@[simp] theorem kit_sl : kitB "str" "list" = some false := by decide +kernel
@[simp] theorem kit_sd : kitB "str" "dict" = some false := by decide +kernel
@[simp] theorem kit_ti : kitB "tuple" "int" = some false := by decide +kernel
@[simp] theorem kit_tb : kitB "tuple" "bool" = some false := by decide +kernel
@[simp] theorem kit_ts : kitB "tuple" "str" = some false := by decide +kernel
@[simp] theorem kit_tt : kitB "tuple" "tuple" = some true := by decide +kernel
@[simp] theorem kit_tl : kitB "tuple" "list" = some false := by decide +kernel
@[simp] theorem kit_td : kitB "tuple" "dict" = some false := by decide +kernel
@[simp] theorem kit_li : kitB "list" "int" = some false := by decide +kernel
@[simp] theorem kit_lb : kitB "list" "bool" = some false := by decide +kernel
@[simp] theorem kit_ls : kitB "list" "str" = some false := by decide +kernel
@[simp] theorem kit_lt : kitB "list" "tuple" = some false := by decide +kernel
@[simp] theorem kit_ll : kitB "list" "list" = some true := by decide +kernel
@[simp] theorem kit_ld : kitB "list" "dict" = some false := by decide +kernel
@[simp] theorem kit_ni : kitB "NoneType" "int" = some false := by decide +kernel
@[simp] theorem kit_nb : kitB "NoneType" "bool" = some false := by decide +kernel
@[simp] theorem kit_ns : kitB "NoneType" "str" = some false := by decide +kernel
@[simp] theorem kit_nt : kitB "NoneType" "tuple" = some false := by decide +kernel
@[simp] theorem kit_nl : kitB "NoneType" "list" = some false := by decide +kernel
@[simp] theorem kit_nd : kitB "NoneType" "dict" = some false := by decide +kernel
section
variable (S : Sto)
@[simp] theorem isi_int_int (i : Int) : gIsi [.int i, .ty "int"] S = .ok (.bl true) S := by simp [gIsi, D.tyName]
@[simp] theorem isi_int_bool (i : Int) : gIsi [.int i, .ty "bool"] S = .ok (.bl false) S := by simp [gIsi, D.tyName]
@[simp] theorem isi_int_str (i : Int) : gIsi [.int i, .ty "str"] S = .ok (.bl false) S := by simp [gIsi, D.tyName]
@[simp] theorem isi_int_tuple (i : Int) : gIsi [.int i, .ty "tuple"] S = .ok (.bl false) S := by simp [gIsi, D.tyName]
@[simp] theorem isi_int_list (i : Int) : gIsi [.int i, .ty "list"] S = .ok (.bl false) S := by simp [gIsi, D.tyName]
@[simp] theorem isi_int_dict (i : Int) : gIsi [.int i, .ty "dict"] S = .ok (.bl false) S := by simp [gIsi, D.tyName]
@[simp] theorem isi_bl_int (i : Bool) : gIsi [.bl i, .ty "int"] S = .ok (.bl true) S := by simp [gIsi, D.tyName]
@[simp] theorem isi_bl_bool (i : Bool) : gIsi [.bl i, .ty "bool"] S = .ok (.bl true) S := by simp [gIsi, D.tyName]
@[simp] theorem isi_bl_str (i : Bool) : gIsi [.bl i, .ty "str"] S = .ok (.bl false) S := by simp [gIsi, D.tyName]
@[simp] theorem isi_bl_tuple (i : Bool) : gIsi [.bl i, .ty "tuple"] S = .ok (.bl false) S := by simp [gIsi, D.tyName]
@[simp] theorem isi_bl_list (i : Bool) : gIsi [.bl i, .ty "list"] S = .ok (.bl false) S := by simp [gIsi, D.tyName]
@[simp] theorem isi_bl_dict (i : Bool) : gIsi [.bl i, .ty "dict"] S = .ok (.bl false) S := by simp [gIsi, D.tyName]
@[simp] theorem isi_str_int (i : Str) : gIsi [.str i, .ty "int"] S = .ok (.bl false) S := by simp [gIsi, D.tyName]
@[simp] theorem isi_str_bool (i : Str) : gIsi [.str i, .ty "bool"] S = .ok (.bl false) S := by simp [gIsi, D.tyName]
@[simp] theorem isi_str_str (i : Str) : gIsi [.str i, .ty "str"] S = .ok (.bl true) S := by simp [gIsi, D.tyName]
@[simp] theorem isi_str_tuple (i : Str) : gIsi [.str i, .ty "tuple"] S = .ok (.bl false) S := by simp [gIsi, D.tyName]
@[simp] theorem isi_str_list (i : Str) : gIsi [.str i, .ty "list"] S = .ok (.bl false) S := by simp [gIsi, D.tyName]
@[simp] theorem isi_str_dict (i : Str) : gIsi [.str i, .ty "dict"] S = .ok (.bl false) S := by simp [gIsi, D.tyName]
@[simp] theorem isi_non_int  : gIsi [.non, .ty "int"] S = .ok (.bl false) S := by simp [gIsi, D.tyName]
@[simp] theorem isi_non_bool  : gIsi [.non, .ty "bool"] S = .ok (.bl false) S := by simp [gIsi, D.tyName]
@[simp] theorem isi_non_str  : gIsi [.non, .ty "str"] S = .ok (.bl false) S := by simp [gIsi, D.tyName]
@[simp] theorem isi_non_tuple  : gIsi [.non, .ty "tuple"] S = .ok (.bl false) S := by simp [gIsi, D.tyName]
@[simp] theorem isi_non_list  : gIsi [.non, .ty "list"] S = .ok (.bl false) S := by simp [gIsi, D.tyName]
@[simp] theorem isi_non_dict  : gIsi [.non, .ty "dict"] S = .ok (.bl false) S := by simp [gIsi, D.tyName]
@[simp] theorem isi_tup_int (i : List D) : gIsi [.tup i, .ty "int"] S = .ok (.bl false) S := by simp [gIsi, D.tyName]
@[simp] theorem isi_tup_bool (i : List D) : gIsi [.tup i, .ty "bool"] S = .ok (.bl false) S := by simp [gIsi, D.tyName]
@[simp] theorem isi_tup_str (i : List D) : gIsi [.tup i, .ty "str"] S = .ok (.bl false) S := by simp [gIsi, D.tyName]
@[simp] theorem isi_tup_tuple (i : List D) : gIsi [.tup i, .ty "tuple"] S = .ok (.bl true) S := by simp [gIsi, D.tyName]
@[simp] theorem isi_tup_list (i : List D) : gIsi [.tup i, .ty "list"] S = .ok (.bl false) S := by simp [gIsi, D.tyName]
@[simp] theorem isi_tup_dict (i : List D) : gIsi [.tup i, .ty "dict"] S = .ok (.bl false) S := by simp [gIsi, D.tyName]
@[simp] theorem isi_lst_int (i : List D) : gIsi [.lst i, .ty "int"] S = .ok (.bl false) S := by simp [gIsi, D.tyName]
@[simp] theorem isi_lst_bool (i : List D) : gIsi [.lst i, .ty "bool"] S = .ok (.bl false) S := by simp [gIsi, D.tyName]
@[simp] theorem isi_lst_str (i : List D) : gIsi [.lst i, .ty "str"] S = .ok (.bl false) S := by simp [gIsi, D.tyName]
@[simp] theorem isi_lst_tuple (i : List D) : gIsi [.lst i, .ty "tuple"] S = .ok (.bl false) S := by simp [gIsi, D.tyName]
@[simp] theorem isi_lst_list (i : List D) : gIsi [.lst i, .ty "list"] S = .ok (.bl true) S := by simp [gIsi, D.tyName]
@[simp] theorem isi_lst_dict (i : List D) : gIsi [.lst i, .ty "dict"] S = .ok (.bl false) S := by simp [gIsi, D.tyName]
@[simp] theorem isi_rol_int (i : List D) : gIsi [.rol i, .ty "int"] S = .ok (.bl false) S := by simp [gIsi, D.tyName]
@[simp] theorem isi_rol_bool (i : List D) : gIsi [.rol i, .ty "bool"] S = .ok (.bl false) S := by simp [gIsi, D.tyName]
@[simp] theorem isi_rol_str (i : List D) : gIsi [.rol i, .ty "str"] S = .ok (.bl false) S := by simp [gIsi, D.tyName]
@[simp] theorem isi_rol_tuple (i : List D) : gIsi [.rol i, .ty "tuple"] S = .ok (.bl false) S := by simp [gIsi, D.tyName]
@[simp] theorem isi_rol_list (i : List D) : gIsi [.rol i, .ty "list"] S = .ok (.bl true) S := by simp [gIsi, D.tyName]
@[simp] theorem isi_rol_dict (i : List D) : gIsi [.rol i, .ty "dict"] S = .ok (.bl false) S := by simp [gIsi, D.tyName]
end
section
variable (S : Sto) (ρ : Ro)
@[simp] theorem cK_eq (d : D) : cK d ρ S = .ok d S := (rfl)
theorem cV_eq (i : Nat) : cV i ρ S = match ρ[i]? with | some (some d) => .ok d S | _ => .bad := (rfl)
@[simp] theorem cV_0 (d : D) (r : Ro) : cV 0 (some d :: r) S = .ok d S := (rfl)
@[simp] theorem cV_s (i : Nat) (d : Option D) (r : Ro) : cV (i + 1) (d :: r) S = cV i r S := by
  simp [cV]
end

/-! ### the combinators, applied -/
section
variable (S : Sto) (ρ : Ro)
@[simp] theorem cB_eq (g : G2) (a b : C) : cB g a b ρ S = (a ρ S).bind fun x S => (b ρ S).bind fun y S => g x y S := (rfl)
@[simp] theorem cU_eq (g : D → Sto → R D) (a : C) : cU g a ρ S = (a ρ S).bind fun x S => g x S := (rfl)
@[simp] theorem caNil_eq : caNil ρ S = .ok [] S := (rfl)
@[simp] theorem caCons_eq (a : C) (b : CA) : caCons a b ρ S = (a ρ S).bind fun d S => (b ρ S).bind fun ds S => .ok (d :: ds) S := (rfl)
@[simp] theorem cT_eq (a : C) : cT a ρ S = (a ρ S).bind fun d S => tru d S := (rfl)
@[simp] theorem cTB_eq (a : C) : cTB a ρ S = (a ρ S).bind fun d S => match d with
  | .bl b => .ok b S
  | _ => .bad := (rfl)
@[simp] theorem tAnd_eq (a b : CT) : tAnd a b ρ S = (a ρ S).bind fun k S => if k = true then b ρ S else .ok false S := (rfl)
@[simp] theorem tOr_eq (a b : CT) : tOr a b ρ S = (a ρ S).bind fun k S => if k = true then .ok true S else b ρ S := (rfl)
@[simp] theorem tNot_eq (a : CT) : tNot a ρ S = (a ρ S).bind fun k S => .ok (!k) S := (rfl)
@[simp] theorem cAnd_eq (a b : C) : cAnd a b ρ S = (a ρ S).bind fun x S => (tru x S).bind fun k S => if k = true then b ρ S else .ok x S := (rfl)
@[simp] theorem cOr_eq (a b : C) : cOr a b ρ S = (a ρ S).bind fun x S => (tru x S).bind fun k S => if k = true then .ok x S else b ρ S := (rfl)
@[simp] theorem cNot_eq (a : C) : cNot a ρ S = (a ρ S).bind fun x S => (tru x S).bind fun k S => .ok (.bl (!k)) S := (rfl)
@[simp] theorem cIf_eq (t : CT) (a b : C) : cIf t a b ρ S = (t ρ S).bind fun k S => if k = true then a ρ S else b ρ S := (rfl)
@[simp] theorem cChain_eq (g g' : G2) (a b c : C) : cChain g g' a b c ρ S = (a ρ S).bind fun x S => (b ρ S).bind fun y S => (g x y S).bind fun k S => match k with
  | .bl true => (c ρ S).bind fun z S => g' y z S
  | .bl false => .ok (.bl false) S
  | _ => .bad := (rfl)
@[simp] theorem cTup_eq (a : CA) : cTup a ρ S = (a ρ S).bind fun ds S => .ok (.tup ds) S := (rfl)
@[simp] theorem cLst_eq (a : CA) : cLst a ρ S = (a ρ S).bind fun ds S => .ok (.lst ds) S := (rfl)
@[simp] theorem cCall_eq (g : List D → Sto → R D) (a : CA) : cCall g a ρ S = (a ρ S).bind g := (rfl)
@[simp] theorem coN_eq : coN ρ S = .ok none S := (rfl)
@[simp] theorem coS_eq (c : C) : coS c ρ S = (c ρ S).bind fun d S => match d with
  | .int i => .ok (some i) S
  | _ => .bad := (rfl)
@[simp] theorem cSl_eq (a : C) (lo hi : CO) : cSl a lo hi ρ S = (a ρ S).bind fun x S => (lo ρ S).bind fun l S => (hi ρ S).bind fun h S => gSl x l h S := (rfl)
@[simp] theorem ciSeq_eq (c : C) : ciSeq c ρ S = (c ρ S).bind fun d S => match d with
  | .tup ds => .ok ds S
  | .lst ds => .ok ds S
  | .rol ds => .ok ds S
  | _ => .bad := (rfl)
@[simp] theorem ciR1_eq (a : CA) : ciR1 a ρ S = (a ρ S).bind fun ds S => match ds with
  | [.int n] => if -16000000 ≤ n ∧ n ≤ 16000000 then .ok (rngD 0 n.toNat) S else .bad
  | _ => .bad := (rfl)
@[simp] theorem ciR2_eq (a : CA) : ciR2 a ρ S = (a ρ S).bind fun ds S => match ds with
  | [.int m, .int n] => if -16000000 ≤ m ∧ m ≤ 16000000 ∧ -16000000 ≤ n ∧ n ≤ 16000000 then .ok (rngD m (n - m).toNat) S else .bad
  | _ => .bad := (rfl)
@[simp] theorem cLc_eq (ci : CI) (t : Tg) (q : CT) (e : C) (vs : List Nat) : cLc ci t q e vs ρ S = (ci ρ S).bind fun ds S => if ds.length ≤ 16000000 then (lcL t q e (wipeR ρ vs) ds S).bind fun ys S => .ok (.lst ys) S else .bad := (rfl)
@[simp] theorem ctYes_eq : ctYes ρ S = .ok true S := (rfl)
@[simp] theorem wipeR_nil : wipeR ρ [] = ρ := (rfl)
@[simp] theorem wipeR_cons (v : Nat) (vs : List Nat) : wipeR ρ (v :: vs) = (wipeR ρ vs).set v none := (rfl)
@[simp] theorem cNew_eq (k : Nat) (a : CA) : cNew k a ρ S = (a ρ S).bind fun ds S => match newAt k S (.lst ds) with
  | some (l, i, S') => if D.les l ds = true then .ok (.ref l i) S' else .bad
  | none => .bad := (rfl)
@[simp] theorem cApp_eq (o e : C) : cApp o e ρ S = (o ρ S).bind fun x S => match x with
  | .ref l n => match look S l n with
    | some (.lst _) => (e ρ S).bind fun d S => match look S l n with
      | some (.lst xs) => if xs.length < 16000000 ∧ D.les l (xs ++ [d]) = true then .ok .non (put S l n (.lst (xs ++ [d]))) else .bad
      | _ => .bad
    | _ => .bad
  | _ => .bad := (rfl)
/-! statements -/
@[simp] theorem cNext_eq : cNext ρ S = .nx ρ S := (rfl)
@[simp] theorem cSeq_eq (a b : CS) : cSeq a b ρ S = (a ρ S).andThen b := (rfl)
@[simp] theorem cBrk_eq : cBrk ρ S = .brk ρ S := (rfl)
@[simp] theorem cCnt_eq : cCnt ρ S = .cnt ρ S := (rfl)
@[simp] theorem cDrop_eq (c : C) : cDrop c ρ S = .of ρ (c ρ S) fun _ S => .nx ρ S := (rfl)
@[simp] theorem cRet_eq (c : C) : cRet c ρ S = .of ρ (c ρ S) fun d S => .ret d S := (rfl)
@[simp] theorem cRetN_eq : cRetN ρ S = .ret .non S := (rfl)
@[simp] theorem cIfS_eq (t : CT) (a b : CS) : cIfS t a b ρ S = .of ρ (t ρ S) fun k S => if k = true then a ρ S else b ρ S := (rfl)
@[simp] theorem cAsg_eq (t : Tg) (c : C) : cAsg t c ρ S = .of ρ (c ρ S) fun d S => tgR t d ρ fun ρ' => .nx ρ' S := (rfl)
@[simp] theorem tgR_tup (ts : List Tg) (ds : List D) (f : Ro → RSt) : tgR (tgT ts) (.tup ds) ρ f = match tgs ts ds ρ with
  | some ρ' => f ρ'
  | none => .bad := (rfl)
@[simp] theorem tgs_nil : tgs [] [] ρ = some ρ := (rfl)
@[simp] theorem tgs_name (i : Nat) (ts : List Tg) (d : D) (ds : List D) : tgs (tgN i :: ts) (d :: ds) ρ = tgs ts ds (ρ.set i (some d)) := (rfl)
@[simp] theorem tgN_eq (i : Nat) (d : D) : tgN i d ρ = some (ρ.set i (some d)) := (rfl)
@[simp] theorem tgT_eq (ts : List Tg) (ds : List D) : tgT ts (.tup ds) ρ = tgs ts ds ρ := (rfl)
@[simp] theorem cPar_eq (is : List Nat) (c : CA) : cPar is c ρ S = .of ρ (c ρ S) fun ds S => match tgs (is.map tgN) ds ρ with
  | some ρ' => .nx ρ' S
  | none => .bad := (rfl)
@[simp] theorem cAug_eq (i : Nat) (g : G2) (c : C) : cAug i g c ρ S = .of ρ (cV i ρ S) fun x _ => .of ρ (c ρ S) fun y S => .of ρ (g x y S) fun z S => .nx (ρ.set i (some z)) S := by
  unfold cAug cV
  cases h : ρ[i]? with
  | none => rfl
  | some o => cases o <;> rfl
@[simp] theorem cSetI_eq (o i e : C) : cSetI o i e ρ S = .of ρ (e ρ S) fun d S => .of ρ (o ρ S) fun x S => .of ρ (i ρ S) fun k S => match x, k with
  | .ref l n, .int j => match look S l n with
    | some (.lst xs) => match ixN xs.length j with
      | some m => if D.les l (xs.set m d) = true then .nx ρ (put S l n (.lst (xs.set m d))) else .bad
      | none => .bad
    | _ => .bad
  | _, _ => .bad := (rfl)
@[simp] theorem cFor_eq (ci : CI) (t : Tg) (body : CS) : cFor ci t body ρ S = .of ρ (ci ρ S) fun ds S => forL t body ds ρ S := (rfl)
@[simp] theorem forL_nil (t : Tg) (body : CS) : forL t body [] ρ S = .nx ρ S := (rfl)
theorem forL_cons (t : Tg) (body : CS) (d : D) (ds : List D) : forL t body (d :: ds) ρ S = tgR t d ρ fun ρ1 => match body ρ1 S with
    | .nx ρ2 S2 => forL t body ds ρ2 S2
    | .cnt ρ2 S2 => forL t body ds ρ2 S2
    | .brk ρ2 S2 => .nx ρ2 S2
    | .ret d S2 => .ret d S2
    | .err x ρ2 S2 => .err x ρ2 S2
    | .bad => .bad := (rfl)
@[simp] theorem lcL_nil (t : Tg) (q : CT) (e : C) : lcL t q e ρ [] S = .ok [] S := (rfl)
theorem lcL_cons (t : Tg) (q : CT) (e : C) (d : D) (ds : List D) : lcL t q e ρ (d :: ds) S = match t d ρ with
    | some ρ1 => (q ρ1 S).calm.bind fun k S1 => if k = true then (e ρ1 S1).calm.bind fun y S2 => (lcL t q e ρ ds S2).bind fun ys S3 => .ok (y :: ys) S3 else lcL t q e ρ ds S1
    | none => .bad := (rfl)
/-! values -/
variable (i j : Int) (x y : Str) (xs ys : List D) (b c : Bool)
@[simp] theorem gSub_i : gSub (.int i) (.int j) S = .ok (.int (i - j)) S := (rfl)
@[simp] theorem gAnd_i : gAnd (.int i) (.int j) S = .ok (.int (Builtin.bitAnd i j)) S := (rfl)
@[simp] theorem gOr_i : gOr (.int i) (.int j) S = .ok (.int (Builtin.bitOr i j)) S := (rfl)
@[simp] theorem gXor_i : gXor (.int i) (.int j) S = .ok (.int (Builtin.bitXor i j)) S := (rfl)
@[simp] theorem gFdiv_i : gFdiv (.int i) (.int j) S = if 0 < j ∧ j < 1073741824 then .ok (.int (i / j)) S else .bad := (rfl)
@[simp] theorem gMod_i : gMod (.int i) (.int j) S = if 0 < j then .ok (.int (i % j)) S else .bad := (rfl)
@[simp] theorem gPow_i : gPow (.int i) (.int j) S = if 0 ≤ j ∧ j ≤ 1000000 ∧ i.natAbs < 18446744073709551616 then .ok (.int (i ^ j.toNat)) S else .bad := (rfl)
@[simp] theorem gShl_i : gShl (.int i) (.int j) S = if 0 ≤ j ∧ j ≤ 1000000 ∧ i.natAbs < 18446744073709551616 then .ok (.int (i * 2 ^ j.toNat)) S else .bad := (rfl)
@[simp] theorem gShr_i : gShr (.int i) (.int j) S = if 0 ≤ j then .ok (.int (i / 2 ^ j.toNat)) S else .bad := (rfl)
@[simp] theorem gLt_i : gLt (.int i) (.int j) S = .ok (.bl (decide (i < j))) S := (rfl)
@[simp] theorem gLe_i : gLe (.int i) (.int j) S = .ok (.bl (decide (i ≤ j))) S := (rfl)
@[simp] theorem gGt_i : gGt (.int i) (.int j) S = .ok (.bl (decide (j < i))) S := (rfl)
@[simp] theorem gGe_i : gGe (.int i) (.int j) S = .ok (.bl (decide (j ≤ i))) S := (rfl)
@[simp] theorem gAdd_i : gAdd (.int i) (.int j) S = .ok (.int (i + j)) S := (rfl)
@[simp] theorem gAdd_s : gAdd (.str x) (.str y) S = if x.length + y.length ≤ 16000000 then .ok (.str (x ++ y)) S else .bad := (rfl)
@[simp] theorem gAdd_l : gAdd (.lst xs) (.lst ys) S = if xs.length + ys.length ≤ 16000000 then .ok (.lst (xs ++ ys)) S else .bad := (rfl)
@[simp] theorem gAdd_t : gAdd (.tup xs) (.tup ys) S = if xs.length + ys.length ≤ 16000000 then .ok (.tup (xs ++ ys)) S else .bad := (rfl)
@[simp] theorem gIAdd_i : gIAdd (.int i) (.int j) S = .ok (.int (i + j)) S := (rfl)
@[simp] theorem gIAdd_s : gIAdd (.str x) (.str y) S = if x.length + y.length ≤ 16000000 then .ok (.str (x ++ y)) S else .bad := (rfl)
@[simp] theorem gMul_i : gMul (.int i) (.int j) S = if i.natAbs < 18446744073709551616 ∨ j.natAbs < 18446744073709551616 then .ok (.int (i * j)) S else .bad := (rfl)
@[simp] theorem gMul_l : gMul (.lst xs) (.int j) S = if 0 ≤ j ∧ j ≤ 100000 ∧ xs.length * j.toNat ≤ 16000000 then .ok (.lst (List.replicate j.toNat xs).flatten) S else .bad := (rfl)
@[simp] theorem gMul_t : gMul (.tup xs) (.int j) S = if xs ≠ [] ∧ 2 ≤ j ∧ j ≤ 1000 ∧ xs.length ≤ 1000 then .ok (.tup (List.replicate j.toNat xs).flatten) S else .bad := (rfl)
@[simp] theorem gEq_i : gEq (.int i) (.int j) S = .ok (.bl (decide (i = j))) S := (rfl)
@[simp] theorem gEq_b : gEq (.bl b) (.bl c) S = .ok (.bl (decide (b = c))) S := (rfl)
@[simp] theorem gEq_s : gEq (.str x) (.str y) S = .ok (.bl (decide (x = y))) S := (rfl)
@[simp] theorem gNe_i : gNe (.int i) (.int j) S = .ok (.bl (!decide (i = j))) S := (rfl)
@[simp] theorem gNe_b : gNe (.bl b) (.bl c) S = .ok (.bl (!decide (b = c))) S := (rfl)
@[simp] theorem gNe_s : gNe (.str x) (.str y) S = .ok (.bl (!decide (x = y))) S := (rfl)
@[simp] theorem gEq_is : gEq (.int i) (.str y) S = .ok (.bl false) S := (rfl)
@[simp] theorem gEq_si : gEq (.str x) (.int j) S = .ok (.bl false) S := (rfl)
@[simp] theorem gEq_ni : gEq .non (.int j) S = .ok (.bl false) S := (rfl)
@[simp] theorem gEq_ns : gEq .non (.str y) S = .ok (.bl false) S := (rfl)
@[simp] theorem gEq_nb : gEq .non (.bl b) S = .ok (.bl false) S := (rfl)
@[simp] theorem gEq_in : gEq (.int i) .non S = .ok (.bl false) S := (rfl)
@[simp] theorem gEq_sn : gEq (.str x) .non S = .ok (.bl false) S := (rfl)
@[simp] theorem gEq_bn : gEq (.bl b) .non S = .ok (.bl false) S := (rfl)
@[simp] theorem gEq_bs : gEq (.bl b) (.str y) S = .ok (.bl false) S := (rfl)
@[simp] theorem gEq_sb : gEq (.str x) (.bl b) S = .ok (.bl false) S := (rfl)
@[simp] theorem gNe_is : gNe (.int i) (.str y) S = .ok (.bl true) S := (rfl)
@[simp] theorem gNe_si : gNe (.str x) (.int j) S = .ok (.bl true) S := (rfl)
@[simp] theorem gNe_ni : gNe .non (.int j) S = .ok (.bl true) S := (rfl)
@[simp] theorem gNe_ns : gNe .non (.str y) S = .ok (.bl true) S := (rfl)
@[simp] theorem gNe_nb : gNe .non (.bl b) S = .ok (.bl true) S := (rfl)
@[simp] theorem gNe_in : gNe (.int i) .non S = .ok (.bl true) S := (rfl)
@[simp] theorem gNe_sn : gNe (.str x) .non S = .ok (.bl true) S := (rfl)
@[simp] theorem gNe_bn : gNe (.bl b) .non S = .ok (.bl true) S := (rfl)
@[simp] theorem gNe_bs : gNe (.bl b) (.str y) S = .ok (.bl true) S := (rfl)
@[simp] theorem gNe_sb : gNe (.str x) (.bl b) S = .ok (.bl true) S := (rfl)
theorem gEq_gen (d e : D) (h : ∀ S, gEq d e S = if SeqAt.shaped d.toP && SeqAt.shaped e.toP then .ok (.bl (PyData.eqv d.toP e.toP)) S else .bad) (hd : SeqAt.shaped d.toP = true) (he : SeqAt.shaped e.toP = true) : gEq d e S = .ok (.bl (PyData.eqv d.toP e.toP)) S := by
  rw [h]; simp [hd, he]
theorem gEq_ll : gEq (.lst xs) (.lst ys) S = if SeqAt.shaped (D.toP (.lst xs)) && SeqAt.shaped (D.toP (.lst ys)) then .ok (.bl (PyData.eqv (D.toP (.lst xs)) (D.toP (.lst ys)))) S else .bad := (rfl)
theorem gEq_tt : gEq (.tup xs) (.tup ys) S = if SeqAt.shaped (D.toP (.tup xs)) && SeqAt.shaped (D.toP (.tup ys)) then .ok (.bl (PyData.eqv (D.toP (.tup xs)) (D.toP (.tup ys)))) S else .bad := (rfl)
@[simp] theorem gIsN_eq (d : D) : gIsN d .non S = .ok (.bl d.isNon) S := by cases d <;> rfl
@[simp] theorem gNotN_eq (d : D) : gNotN d .non S = .ok (.bl (!d.isNon)) S := by cases d <;> rfl
@[simp] theorem isNon_non : D.non.isNon = true := (rfl)
@[simp] theorem isNon_int : (D.int i).isNon = false := (rfl)
@[simp] theorem isNon_bl : (D.bl b).isNon = false := (rfl)
@[simp] theorem isNon_str : (D.str x).isNon = false := (rfl)
@[simp] theorem isNon_tup : (D.tup xs).isNon = false := (rfl)
@[simp] theorem isNon_lst : (D.lst xs).isNon = false := (rfl)
@[simp] theorem isNon_rol : (D.rol xs).isNon = false := (rfl)
@[simp] theorem isNon_ref (l n : Nat) : (D.ref l n).isNon = false := (rfl)
@[simp] theorem gNeg_i : gNeg (.int i) S = .ok (.int (-i)) S := (rfl)
@[simp] theorem tru_b : tru (.bl b) S = .ok b S := (rfl)
@[simp] theorem tru_i : tru (.int i) S = .ok (i != 0) S := (rfl)
@[simp] theorem tru_n : tru .non S = .ok false S := (rfl)
@[simp] theorem tru_t : tru (.tup xs) S = .ok (!xs.isEmpty) S := (rfl)
@[simp] theorem tru_l : tru (.lst xs) S = .ok (!xs.isEmpty) S := (rfl)
@[simp] theorem tru_ro : tru (.rol xs) S = .ok (!xs.isEmpty) S := (rfl)
@[simp] theorem gIx_t : gIx (.tup xs) (.int i) S = match atI xs i with | some d => .ok d S | none => .bad := (rfl)
@[simp] theorem gIx_l : gIx (.lst xs) (.int i) S = match atI xs i with | some d => .ok d S | none => .bad := (rfl)
@[simp] theorem gIx_ro : gIx (.rol xs) (.int i) S = match atI xs i with | some d => .ok d S | none => .bad := (rfl)
@[simp] theorem gIx_r (l n : Nat) : gIx (.ref l n) (.int i) S = match look S l n with
    | some (.lst xs) => match atI xs i with
      | some d => .ok d S
      | none => .bad
    | _ => .bad := (rfl)
@[simp] theorem gSl_t (lo hi : Option Int) : gSl (.tup xs) lo hi S = .ok (.tup (cutL xs lo hi)) S := (rfl)
@[simp] theorem gSl_l (lo hi : Option Int) : gSl (.lst xs) lo hi S = .ok (.lst (cutL xs lo hi)) S := (rfl)
@[simp] theorem gSl_ro (lo hi : Option Int) : gSl (.rol xs) lo hi S = .ok (.lst (cutL xs lo hi)) S := (rfl)
@[simp] theorem gLen_t : gLen [.tup xs] S = .ok (.int xs.length) S := (rfl)
@[simp] theorem gLen_l : gLen [.lst xs] S = .ok (.int xs.length) S := (rfl)
@[simp] theorem gLen_ro : gLen [.rol xs] S = .ok (.int xs.length) S := (rfl)
@[simp] theorem gLen_r (l n : Nat) : gLen [.ref l n] S = match look S l n with
    | some (.lst xs) => .ok (.int xs.length) S
    | _ => .bad := (rfl)
@[simp] theorem gAbs_i : gAbs [.int i] S = .ok (.int (if i < 0 then -i else i)) S := (rfl)
@[simp] theorem gInt_i : gInt [.int i] S = .ok (.int i) S := (rfl)
@[simp] theorem gInt_b : gInt [.bl b] S = .ok (.int (if b then 1 else 0)) S := (rfl)
@[simp] theorem gTuple_t : gTuple [.tup xs] S = .ok (.tup xs) S := (rfl)
@[simp] theorem gTuple_l : gTuple [.lst xs] S = .ok (.tup xs) S := (rfl)
@[simp] theorem gTuple_ro : gTuple [.rol xs] S = .ok (.tup xs) S := (rfl)
@[simp] theorem gList_t : gList [.tup xs] S = .ok (.lst xs) S := (rfl)
@[simp] theorem gList_l : gList [.lst xs] S = .ok (.lst xs) S := (rfl)
@[simp] theorem gList_ro : gList [.rol xs] S = .ok (.lst xs) S := (rfl)
theorem gSum_l {ns : List Int} (h : toInts xs = some ns) : gSum [.lst xs] S = .ok (.int ns.sum) S := by simp [gSum, gFold, h]
theorem gAll_l {ns : List Bool} (h : toBls xs = some ns) : gAll [.lst xs] S = .ok (.bl (ns.all id)) S := by simp [gAll, gFold, h]
theorem gAny_l {ns : List Bool} (h : toBls xs = some ns) : gAny [.lst xs] S = .ok (.bl (ns.any id)) S := by simp [gAny, gFold, h]
@[simp] theorem atI_0 {α : Type} (d : α) (ds : List α) : atI (d :: ds) 0 = some d := by simp [atI, ixN]
theorem atI_nn {α : Type} {xs : List α} {i : Int} (h : 0 ≤ i) : atI xs i = xs[i.toNat]? := by
  unfold atI ixN
  by_cases h2 : i < xs.length
  · simp [h, h2]
  · simp [h, h2]
    try omega
@[simp] theorem leave_nil (d : D) : leave d ([] :: S) = .ok d S := (rfl)
theorem leave_flat (d : D) (r : List O) (h : ∀ n l, D.fz r l (n + 1) d = some d) : leave d (r :: S) = .ok d S := by
  cases r with
  | nil => rfl
  | cons o r =>
    have e : D.fz (o :: r) S.length 40 d = some d := h 39 S.length
    simp only [leave, e]
@[simp] theorem leave_int (r : List O) : leave (.int i) (r :: S) = .ok (.int i) S := leave_flat _ _ _ fun _ _ => rfl
@[simp] theorem leave_bl (r : List O) : leave (.bl b) (r :: S) = .ok (.bl b) S := leave_flat _ _ _ fun _ _ => rfl
@[simp] theorem leave_non (r : List O) : leave .non (r :: S) = .ok .non S := leave_flat _ _ _ fun _ _ => rfl
@[simp] theorem leave_str (r : List O) : leave (.str x) (r :: S) = .ok (.str x) S := leave_flat _ _ _ fun _ _ => rfl
theorem runF_eq (n : Nat) (body : CS) (args : List D) : runF n body args S = match body (args.map some ++ List.replicate (n - args.length) none) ([] :: S) with
  | .nx _ S' => leave .non S'
  | .ret d S' => leave d S'
  | .err x _ S' => leaveX x S'
  | _ => .bad := (rfl)
end
@[simp] theorem les_ints (l : Nat) : ∀ ns : List Int, D.les l (ns.map D.int) = true
  | [] => rfl
  | n :: ns => by simp [D.les, D.le, les_ints l ns]
/-! ### comprehensions that leave the store -/
theorem lc_filter (i : Nat) (q : CT) (e : C) (ρ : Ro) (S : Sto) (p : D → Bool) (f : D → D) : ∀ ds : List D, (∀ d ∈ ds, q (ρ.set i (some d)) S = .ok (p d) S) → (∀ d ∈ ds, p d = true → e (ρ.set i (some d)) S = .ok (f d) S) →
    lcL (tgN i) q e ρ ds S = .ok ((ds.filter p).map f) S
  | [], _, _ => rfl
  | d :: ds, h1, h2 => by
    have ih := lc_filter i q e ρ S p f ds (fun x hx => h1 x (List.mem_cons_of_mem _ hx)) (fun x hx => h2 x (List.mem_cons_of_mem _ hx))
    rw [lcL_cons]
    simp only [tgN_eq, h1 d List.mem_cons_self, R.calm_ok, R.bind_ok]
    cases hp : p d with
    | true => simp [h2 d List.mem_cons_self hp, ih, List.filter_cons, hp]
    | false => simp [ih, List.filter_cons, hp]
theorem lc_map (i : Nat) (e : C) (ρ : Ro) (S : Sto) (f : D → D) (ds : List D) (h : ∀ d ∈ ds, e (ρ.set i (some d)) S = .ok (f d) S) : lcL (tgN i) ctYes e ρ ds S = .ok (ds.map f) S := by
  have := lc_filter i ctYes e ρ S (fun _ => true) f ds (fun _ _ => rfl) (fun d hd _ => h d hd)
  rw [this]
  congr 2
  exact List.filter_eq_self.mpr fun _ _ => rfl
theorem lc_rng (i : Nat) (e : C) (ρ : Ro) (S : Sto) (lo : Int) (n : Nat) (f : Nat → D) (h : ∀ k, k < n → e (ρ.set i (some (.int (lo + (k : Int))))) S = .ok (f k) S) : lcL (tgN i) ctYes e ρ (rngD lo n) S = .ok ((List.range n).map f) S := by
  have go : ∀ ks : List Nat, (∀ k ∈ ks, e (ρ.set i (some (.int (lo + (k : Int))))) S = .ok (f k) S) → lcL (tgN i) ctYes e ρ (ks.map fun (k : Nat) => D.int (lo + (k : Int))) S = .ok (ks.map f) S := by
    intro ks
    induction ks with
    | nil => intro _; rfl
    | cons k ks ih =>
      intro hk
      rw [List.map_cons, lcL_cons]
      simp [hk k List.mem_cons_self, ih fun x hx => hk x (List.mem_cons_of_mem _ hx)]
  exact go (List.range n) fun k hk => h k (List.mem_range.mp hk)
theorem lc_rngF (i : Nat) (q : CT) (e : C) (ρ : Ro) (S : Sto) (lo : Int) (n : Nat) (p : Nat → Bool) (f : Nat → D) (hq : ∀ k, k < n → q (ρ.set i (some (.int (lo + (k : Int))))) S = .ok (p k) S) (h : ∀ k, k < n → p k = true → e (ρ.set i (some (.int (lo + (k : Int))))) S = .ok (f k) S) :
    lcL (tgN i) q e ρ (rngD lo n) S = .ok (((List.range n).filter p).map f) S := by
  have go : ∀ ks : List Nat, (∀ k ∈ ks, q (ρ.set i (some (.int (lo + (k : Int))))) S = .ok (p k) S) → (∀ k ∈ ks, p k = true → e (ρ.set i (some (.int (lo + (k : Int))))) S = .ok (f k) S) → lcL (tgN i) q e ρ (ks.map fun (k : Nat) => D.int (lo + (k : Int))) S = .ok ((ks.filter p).map f) S := by
    intro ks
    induction ks with
    | nil => intro _ _; rfl
    | cons k ks ih =>
      intro h1 h2
      have := ih (fun x hx => h1 x (List.mem_cons_of_mem _ hx)) (fun x hx => h2 x (List.mem_cons_of_mem _ hx))
      rw [List.map_cons, lcL_cons]
      simp only [tgN_eq, h1 k List.mem_cons_self, R.calm_ok, R.bind_ok]
      cases hp : p k with
      | true => simp [h2 k List.mem_cons_self hp, this, List.filter_cons, hp]
      | false => simp [this, List.filter_cons, hp]
  exact go (List.range n) (fun k hk => hq k (List.mem_range.mp hk)) (fun k hk => h k (List.mem_range.mp hk))
@[simp] theorem rngD_len (lo : Int) (n : Nat) : (rngD lo n).length = n := rngD_length lo n
/-! ### slices -/
section
variable {α : Type} (xs : List α)
theorem cutL_from (k : Nat) : cutL xs (some (k : Int)) none = xs.drop k := by
  unfold cutL
  rw [HT.sIx_nat, HT.sIx_none]
  by_cases h : k ≤ xs.length
  · rw [Nat.min_eq_left h]
    exact List.take_of_length_le (by rw [List.length_drop]; omega)
  · rw [List.drop_of_length_le (by omega), List.drop_of_length_le (by omega)]
    simp
theorem cutL_to (k : Nat) : cutL xs none (some (k : Int)) = xs.take k := by
  unfold cutL
  rw [HT.sIx_nat, HT.sIx_none, List.drop_zero, Nat.sub_zero]
  by_cases h : k ≤ xs.length
  · rw [Nat.min_eq_left h]
  · rw [Nat.min_eq_right (by omega), List.take_of_length_le (Nat.le_refl _), List.take_of_length_le (by omega)]
theorem cutL_both (j k : Nat) : cutL xs (some (j : Int)) (some (k : Int)) = (xs.take k).drop j := by
  unfold cutL
  rw [HT.sIx_nat, HT.sIx_nat]
  by_cases hj : j ≤ xs.length
  · rw [Nat.min_eq_left hj, List.drop_take]
    by_cases h : k ≤ xs.length
    · rw [Nat.min_eq_left h]
    · rw [Nat.min_eq_right (by omega), List.take_of_length_le (by rw [List.length_drop]; omega), List.take_of_length_le (by rw [List.length_drop]; omega)]
  · have e : min j xs.length = xs.length := by omega
    have e2 : List.drop j (List.take k xs) = [] := List.drop_of_length_le (by rw [List.length_take]; omega)
    rw [e, e2, List.drop_of_length_le (Nat.le_refl _)]
    simp
theorem cutL_all : cutL xs none none = xs := by
  unfold cutL
  rw [HT.sIx_none, HT.sIx_none]
  simp
theorem cutL_last : cutL xs none (some (-1)) = xs.dropLast := by
  unfold cutL
  rw [HT.sIx_none, List.dropLast_eq_take]
  have : HT.sIx xs.length xs.length (some (-1)) = xs.length - 1 := by
    unfold HT.sIx
    simp only [show (-1 : Int) < 0 from by decide, if_true]
    omega
  rw [this]
  simp
@[simp] theorem cutL_from1 : cutL xs (some 1) none = xs.drop 1 := cutL_from xs 1
@[simp] theorem cutL_from2 : cutL xs (some 2) none = xs.drop 2 := cutL_from xs 2
@[simp] theorem cutL_to1 : cutL xs none (some 1) = xs.take 1 := cutL_to xs 1
end
end MP

/-! MP: what the laws' own helpers mean. -/
namespace MP
open PySem PySem.Spec PyProof.Rows L2
/-- _law_same(told, due) -/
def c_same (self : Sem') : CS :=
  (cSeq (cIfS (cTB (cB gIsN (cV 1) (cK .non))) (cRet (cB gIsN (cV 0) (cK .non))) cNext)
    (cSeq (cIfS (cT (cCall gIsi (caCons (cV 1) (caCons (cK (.ty "bool")) caNil)))) (cRet (cAnd (cCall gIsi (caCons (cV 0) (caCons (cK (.ty "bool")) caNil))) (cB gEq (cV 0) (cV 1)))) cNext)
    (cSeq (cIfS (cT (cCall gIsi (caCons (cV 1) (caCons (cK (.ty "int")) caNil)))) (cRet (cAnd (cCall gIsi (caCons (cV 0) (caCons (cK (.ty "int")) caNil))) (cAnd (cNot (cCall gIsi (caCons (cV 0) (caCons (cK (.ty "bool")) caNil)))) (cB gEq (cV 0) (cV 1))))) cNext)
    (cSeq (cIfS (cT (cCall gIsi (caCons (cV 1) (caCons (cK (.ty "str")) caNil)))) (cRet (cAnd (cCall gIsi (caCons (cV 0) (caCons (cK (.ty "str")) caNil))) (cB gEq (cV 0) (cV 1)))) cNext)
    (cSeq (cIfS (tOr (tAnd (cT (cCall gIsi (caCons (cV 1) (caCons (cK (.ty "list")) caNil)))) (tNot (cT (cCall gIsi (caCons (cV 0) (caCons (cK (.ty "list")) caNil)))))) (tAnd (cT (cCall gIsi (caCons (cV 1) (caCons (cK (.ty "tuple")) caNil)))) (tNot (cT (cCall gIsi (caCons (cV 0) (caCons (cK (.ty "tuple")) caNil))))))) (cRet (cK (.bl false))) cNext)
    (cRet (cAnd (cB gEq (cCall gLen (caCons (cV 0) caNil)) (cCall gLen (caCons (cV 1) caNil))) (cB gEq (cLc (ciR1 (caCons (cCall gLen (caCons (cV 1) caNil)) caNil)) (tgN 2) (tNot (cT (cCall self (caCons (cB gIx (cV 0) (cV 2)) (caCons (cB gIx (cV 1) (cV 2)) caNil))))) (cK (.int 1)) [2]) (cLst caNil)))))))))
def m_same : Nat → Sem'
  | 0 => fun _ _ => .bad
  | k + 1 => runF 3 (c_same (m_same k))

mutual
/-- of one kind and equal, also within: depth below n, no changeable thing within -/
def D.flat : Nat → D → Bool
  | 0, _ => false
  | n + 1, d => match d with
    | .non => true
    | .bl _ => true
    | .int _ => true
    | .str _ => true
    | .tup xs => decide (xs.length ≤ 16000000) && D.flats n xs
    | .lst xs => decide (xs.length ≤ 16000000) && D.flats n xs
    | _ => false
def D.flats : Nat → List D → Bool
  | _, [] => true
  | n, x :: xs => D.flat n x && D.flats n xs
end
theorem flats_mem : ∀ {n : Nat} {xs : List D}, D.flats n xs = true → ∀ d ∈ xs, D.flat n d = true
  | n, x :: xs, h, d, hd => by
    simp only [D.flats, Bool.and_eq_true] at h
    rcases List.mem_cons.mp hd with e | e
    · subst e; exact h.1
    · exact flats_mem h.2 d e
@[simp] theorem shaped_lnil : SeqAt.shaped (D.toP (.lst [])) = true := by decide +kernel
@[simp] theorem shaped_tnil : SeqAt.shaped (D.toP (.tup [])) = true := by decide +kernel
@[simp] theorem shaped_l0 : SeqAt.shaped (PyData.list []) = true := by decide +kernel
@[simp] theorem shaped_t0 : SeqAt.shaped (PyData.tuple []) = true := by decide +kernel
@[simp] theorem gEq_lnil (S : Sto) : gEq (.lst []) (.lst []) S = .ok (.bl true) S := by
  rw [gEq_ll]; simp [D.toP, D.toPs, PyData.eqv, PyData.eqvAll]
theorem same_refl : ∀ (n : Nat) (d : D) (S : Sto), D.flat n d = true → m_same n [d, d] S = .ok (.bl true) S := by
  intro n
  induction n with
  | zero => intro d S h; simp [D.flat] at h
  | succ n ih =>
    intro d S h
    have seq : ∀ xs : List D, D.flats n xs = true → ∀ (x : D), (∀ (k : Nat) S (hk : k < xs.length), gIx x (.int (k : Int)) S = .ok xs[k] S) →
        lcL (tgN 2) (tNot (cT (cCall (m_same n) (caCons (cB gIx (cV 0) (cV 2)) (caCons (cB gIx (cV 1) (cV 2)) caNil))))) (cK (.int 1)) [some x, some x, none] (rngD 0 xs.length) ([] :: S) = .ok [] ([] :: S) := by
      intro xs hx x hi
      rw [lc_rngF (p := fun _ => false) (f := fun _ => .int 1)]
      · simp
      · intro k hk
        have e := hi k ([] :: S) hk
        have := ih xs[k] ([] :: S) (flats_mem hx _ (List.getElem_mem hk))
        simp [e, this]
      · intro k _ h; cases h
    show runF 3 (c_same (m_same n)) [d, d] S = _
    rw [runF_eq]
    cases d with
    | non => simp [c_same]
    | bl b => simp [c_same]
    | int i => simp [c_same]
    | str x => simp [c_same]
    | ty m => simp [D.flat] at h
    | ref l m => simp [D.flat] at h
    | rol xs => simp [D.flat] at h
    | tup xs =>
      simp only [D.flat, Bool.and_eq_true, decide_eq_true_eq] at h
      have q := seq xs h.2 (.tup xs) (fun k S hk => by simp [atI_nn, hk])
      have h2 : (-16000000 : Int) ≤ xs.length := by omega
      have h3 : (xs.length : Int) ≤ 16000000 := by omega
      simp [c_same, q, h.1, h2, h3]
    | lst xs =>
      simp only [D.flat, Bool.and_eq_true, decide_eq_true_eq] at h
      have q := seq xs h.2 (.lst xs) (fun k S hk => by simp [atI_nn, hk])
      have h2 : (-16000000 : Int) ≤ xs.length := by omega
      have h3 : (xs.length : Int) ≤ 16000000 := by omega
      simp [c_same, q, h.1, h2, h3]
end MP

namespace K01
open MP PySem
/-- is_count(value): 0 value -/
def c_is_count : CS :=
  (cRet (cAnd (cCall gIsi (caCons (cV 0) (caCons (cK (.ty "int")) caNil))) (cAnd (cNot (cCall gIsi (caCons (cV 0) (caCons (cK (.ty "bool")) caNil)))) (cB gGe (cV 0) (cK (.int 0))))))
def m_is_count : Sem' := runF 1 c_is_count
/-- is_width(value): 0 value -/
def c_is_width : CS :=
  (cRet (cAnd (cCall m_is_count (caCons (cV 0) caNil)) (cChain gLe gLe (cK (.int 1)) (cV 0) (cK (.int 16)))))
def m_is_width : Sem' := runF 1 c_is_width
/-- is_word(value, width): 0 value 1 width -/
def c_is_word : CS :=
  (cRet (cAnd (cCall m_is_count (caCons (cV 0) caNil)) (cB gLt (cV 0) (cB gShl (cK (.int 1)) (cV 1)))))
def m_is_word : Sem' := runF 2 c_is_word
/-- are_words(value, width): 0 value 1 width 2 one -/
def c_are_words : CS :=
  (cRet (cAnd (cCall gIsi (caCons (cV 0) (caCons (cK (.ty "tuple")) caNil))) (cCall gAll (caCons (cLc (ciSeq (cV 0)) (tgN 2) ctYes (cCall m_is_word (caCons (cV 2) (caCons (cV 1) caNil))) [2]) caNil))))
def m_are_words : Sem' := runF 3 c_are_words
/-- is_byte(value): 0 value -/
def c_is_byte : CS :=
  (cRet (cAnd (cCall m_is_count (caCons (cV 0) caNil)) (cB gLt (cV 0) (cK (.int 256)))))
def m_is_byte : Sem' := runF 1 c_is_byte
/-- are_bytes(value): 0 value 1 one -/
def c_are_bytes : CS :=
  (cRet (cAnd (cCall gIsi (caCons (cV 0) (caCons (cK (.ty "tuple")) caNil))) (cCall gAll (caCons (cLc (ciSeq (cV 0)) (tgN 1) ctYes (cCall m_is_byte (caCons (cV 1) caNil)) [1]) caNil))))
def m_are_bytes : Sem' := runF 2 c_are_bytes
/-- cut_word(value, width): 0 value 1 width -/
def c_cut_word : CS :=
  (cRet (cB gAnd (cV 0) (cB gSub (cB gShl (cK (.int 1)) (cV 1)) (cK (.int 1)))))
def m_cut_word : Sem' := runF 2 c_cut_word
/-- bits_of(word, width): 0 word 1 width 2 k -/
def c_bits_of : CS :=
  (cRet (cCall gTuple (caCons (cLc (ciR1 (caCons (cV 1) caNil)) (tgN 2) ctYes (cB gAnd (cB gShr (cV 0) (cV 2)) (cK (.int 1))) [2]) caNil)))
def m_bits_of : Sem' := runF 3 c_bits_of
/-- word_of(bits): 0 bits 1 total 2 k -/
def c_word_of : CS :=
  (cSeq (cAsg (tgN 1) (cK (.int 0)))
    (cSeq (cFor (ciR1 (caCons (cCall gLen (caCons (cV 0) caNil)) caNil)) (tgN 2) (cAug 1 gIAdd (cB gShl (cB gIx (cV 0) (cV 2)) (cV 2))))
    (cRet (cV 1))))
def m_word_of : Sem' := runF 3 c_word_of
/-- is_bits(value, size): 0 value 1 size 2 one -/
def c_is_bits : CS :=
  (cRet (cAnd (cCall gIsi (caCons (cV 0) (caCons (cK (.ty "tuple")) caNil))) (cAnd (cB gEq (cCall gLen (caCons (cV 0) caNil)) (cV 1)) (cCall gAll (caCons (cLc (ciSeq (cV 0)) (tgN 2) ctYes (cCall m_is_word (caCons (cV 2) (caCons (cK (.int 1)) caNil))) [2]) caNil)))))
def m_is_bits : Sem' := runF 3 c_is_bits
/-- one_count(word): 0 word 1 found -/
noncomputable def c_one_count : CS :=
  (cSeq (cAsg (tgN 1) (cK (.int 0)))
    (cSeq (cWhile (cTB (cB gGt (cV 0) (cK (.int 0)))) (cPar [1, 0] (caCons (cB gAdd (cV 1) (cB gAnd (cV 0) (cK (.int 1)))) (caCons (cB gShr (cV 0) (cK (.int 1))) caNil))))
    (cRet (cV 1))))
noncomputable def m_one_count : Sem' := runF 2 c_one_count
/-- number_width(number): 0 number 1 size -/
noncomputable def c_number_width : CS :=
  (cSeq (cAsg (tgN 1) (cK (.int 1)))
    (cSeq (cWhile (cTB (cB gGt (cB gShr (cV 0) (cV 1)) (cK (.int 0)))) (cAug 1 gIAdd (cK (.int 1))))
    (cRet (cV 1))))
noncomputable def m_number_width : Sem' := runF 2 c_number_width
/-- _law_next(tape, many): 0 tape 1 many 2 rest 3 cell -/
def c__law_next : CS :=
  (cSeq (cAsg (tgN 2) (cB gIx (cV 0) (cK (.int 2))))
    (cSeq (cIfS (cTB (cB gEq (cV 2) (cK (.int 0)))) (cSeq (cAsg (tgN 3) (cK (.int 0)))
    (cSeq (cIfS (cTB (cB gLt (cB gIx (cV 0) (cK (.int 1))) (cCall gLen (caCons (cB gIx (cV 0) (cK (.int 0))) caNil)))) (cSeq (cAsg (tgN 3) (cCall gAbs (caCons (cCall gInt (caCons (cB gIx (cB gIx (cV 0) (cK (.int 0))) (cB gIx (cV 0) (cK (.int 1)))) caNil)) caNil)))
    (cSetI (cV 0) (cK (.int 1)) (cB gAdd (cB gIx (cV 0) (cK (.int 1))) (cK (.int 1))))) cNext)
    (cSeq (cAsg (tgN 2) (cV 3))
    (cIfS (cTB (cB gLt (cV 3) (cB gPow (cK (.int 10)) (cK (.int 18))))) (cSeq (cSetI (cV 0) (cK (.int 3)) (cB gMod (cCall gInt (caCons (cB gAdd (cB gAdd (cB gMul (cB gIx (cV 0) (cK (.int 3))) (cK (.int 69621))) (cB gMul (cV 3) (cK (.int 40692)))) (cK (.int 17))) caNil)) (cK (.int 2147483647))))
    (cRet (cB gMod (cB gMod (cCall gInt (caCons (cB gMul (cCall gInt (caCons (cB gFdiv (cB gIx (cV 0) (cK (.int 3))) (cK (.int 5))) caNil)) (cK (.int 48271))) caNil)) (cK (.int 2147483647))) (cV 1)))) cNext)))) cNext)
    (cSeq (cSetI (cV 0) (cK (.int 2)) (cB gFdiv (cV 2) (cV 1)))
    (cRet (cB gMod (cCall gInt (caCons (cV 2) caNil)) (cV 1))))))
def m__law_next : Sem' := runF 4 c__law_next
/-- _law_same(told, due): 0 told 1 due 2 k -/
def c__law_same (self : Sem') : CS :=
  (cSeq (cIfS (cTB (cB gIsN (cV 1) (cK .non))) (cRet (cB gIsN (cV 0) (cK .non))) cNext)
    (cSeq (cIfS (cT (cCall gIsi (caCons (cV 1) (caCons (cK (.ty "bool")) caNil)))) (cRet (cAnd (cCall gIsi (caCons (cV 0) (caCons (cK (.ty "bool")) caNil))) (cB gEq (cV 0) (cV 1)))) cNext)
    (cSeq (cIfS (cT (cCall gIsi (caCons (cV 1) (caCons (cK (.ty "int")) caNil)))) (cRet (cAnd (cCall gIsi (caCons (cV 0) (caCons (cK (.ty "int")) caNil))) (cAnd (cNot (cCall gIsi (caCons (cV 0) (caCons (cK (.ty "bool")) caNil)))) (cB gEq (cV 0) (cV 1))))) cNext)
    (cSeq (cIfS (cT (cCall gIsi (caCons (cV 1) (caCons (cK (.ty "str")) caNil)))) (cRet (cAnd (cCall gIsi (caCons (cV 0) (caCons (cK (.ty "str")) caNil))) (cB gEq (cV 0) (cV 1)))) cNext)
    (cSeq (cIfS (tOr (tAnd (cT (cCall gIsi (caCons (cV 1) (caCons (cK (.ty "list")) caNil)))) (tNot (cT (cCall gIsi (caCons (cV 0) (caCons (cK (.ty "list")) caNil)))))) (tAnd (cT (cCall gIsi (caCons (cV 1) (caCons (cK (.ty "tuple")) caNil)))) (tNot (cT (cCall gIsi (caCons (cV 0) (caCons (cK (.ty "tuple")) caNil))))))) (cRet (cK (.bl false))) cNext)
    (cRet (cAnd (cB gEq (cCall gLen (caCons (cV 0) caNil)) (cCall gLen (caCons (cV 1) caNil))) (cB gEq (cLc (ciR1 (caCons (cCall gLen (caCons (cV 1) caNil)) caNil)) (tgN 2) (tNot (cT (cCall self (caCons (cB gIx (cV 0) (cV 2)) (caCons (cB gIx (cV 1) (cV 2)) caNil))))) (cK (.int 1)) [2]) (cLst caNil)))))))))
def m__law_same : Nat → Sem'
  | 0 => fun _ _ => .bad
  | k + 1 => runF 3 (c__law_same (m__law_same k))
/-- law(script): 0 script 1 tape 2 width 3 word 4 other 5 bits 6 large 7 size 8 told 9 odd 10 some 11 lists 12 row 13 one 14 k -/
noncomputable def c_law : CS :=
  (cSeq (cAsg (tgN 1) (cNew 0 (caCons (cCall gList (caCons (cV 0) caNil)) (caCons (cK (.int 0)) (caCons (cK (.int 0)) (caCons (cK (.int 1)) caNil))))))
    (cSeq (cAsg (tgN 2) (cB gAdd (cK (.int 1)) (cCall m__law_next (caCons (cV 1) (caCons (cK (.int 16)) caNil)))))
    (cSeq (cAsg (tgT [(tgN 3), (tgN 4)]) (cTup (caCons (cCall m__law_next (caCons (cV 1) (caCons (cB gShl (cK (.int 1)) (cV 2)) caNil))) (caCons (cB gSub (cCall m__law_next (caCons (cV 1) (caCons (cB gShl (cK (.int 1)) (cK (.int 18))) caNil))) (cB gShl (cK (.int 1)) (cK (.int 17)))) caNil))))
    (cSeq (cAsg (tgN 5) (cCall gTuple (caCons (cLc (ciR1 (caCons (cV 2) caNil)) (tgN 14) ctYes (cB gAnd (cB gFdiv (cV 3) (cB gShl (cK (.int 1)) (cV 14))) (cK (.int 1))) [14]) caNil)))
    (cSeq (cAsg (tgN 6) (cCall m__law_next (caCons (cV 1) (caCons (cB gShl (cK (.int 1)) (cK (.int 20))) caNil))))
    (cSeq (cAsg (tgN 7) (cCall gLen (caCons (cLc (ciR2 (caCons (cK (.int 1)) (caCons (cK (.int 30)) caNil))) (tgN 14) (cTB (cB gGe (cV 6) (cB gShl (cK (.int 1)) (cV 14)))) (cV 14) [14]) caNil)))
    (cSeq (cAsg (tgN 8) (cLst (caCons (cCall m_bits_of (caCons (cV 3) (caCons (cV 2) caNil))) (caCons (cCall m_word_of (caCons (cV 5) caNil)) (caCons (cCall m_cut_word (caCons (cV 4) (caCons (cV 2) caNil))) (caCons (cCall m_one_count (caCons (cV 6) caNil)) (caCons (cCall m_number_width (caCons (cV 6) caNil)) (caCons (cK (.int 16)) caNil))))))))
    (cSeq (cIfS (tNot (cT (cCall (m__law_same 20) (caCons (cV 8) (caCons (cLst (caCons (cV 5) (caCons (cV 3) (caCons (cB gMod (cCall gInt (caCons (cV 4) caNil)) (cB gShl (cK (.int 1)) (cV 2))) (caCons (cCall gSum (caCons (cLc (ciR1 (caCons (cK (.int 20)) caNil)) (tgN 14) ctYes (cB gAnd (cB gShr (cV 6) (cV 14)) (cK (.int 1))) [14]) caNil)) (caCons (cB gAdd (cK (.int 1)) (cV 7)) (caCons (cK (.int 16)) caNil))))))) caNil))))) (cRet (cK (.bl false))) cNext)
    (cSeq (cAsg (tgN 9) (cLst (caCons (cK (.int 0)) (caCons (cK (.int 1)) (caCons (cK (.int 16)) (caCons (cK (.int 17)) (caCons (cU gNeg (cK (.int 1))) (caCons (cK (.bl true)) (caCons (cK .non) (caCons (cK (.str "1")) (caCons (cTup (caCons (cK (.int 1)) caNil)) caNil)))))))))))
    (cSeq (cIfS (tNot (cT (cCall (m__law_same 20) (caCons (cLst (caCons (cLc (ciSeq (cV 9)) (tgN 13) ctYes (cCall m_is_count (caCons (cV 13) caNil)) [13]) (caCons (cLc (ciSeq (cV 9)) (tgN 13) ctYes (cCall m_is_width (caCons (cV 13) caNil)) [13]) caNil))) (caCons (cLst (caCons (cB gAdd (cB gMul (cLst (caCons (cK (.bl true)) caNil)) (cK (.int 4))) (cB gMul (cLst (caCons (cK (.bl false)) caNil)) (cK (.int 5)))) (caCons (cB gAdd (cLst (caCons (cK (.bl false)) (caCons (cK (.bl true)) (caCons (cK (.bl true)) caNil)))) (cB gMul (cLst (caCons (cK (.bl false)) caNil)) (cK (.int 6)))) caNil))) caNil))))) (cRet (cK (.bl false))) cNext)
    (cSeq (cAsg (tgN 8) (cLc (ciSeq (cTup (caCons (cV 3) (caCons (cB gSub (cB gShl (cK (.int 1)) (cV 2)) (cK (.int 1))) (caCons (cB gShl (cK (.int 1)) (cV 2)) (caCons (cU gNeg (cK (.int 1))) (caCons (cK (.bl true)) (caCons (cK .non) (caCons (cK (.str "0")) caNil))))))))) (tgN 13) ctYes (cCall m_is_word (caCons (cV 13) (caCons (cV 2) caNil))) [13]))
    (cSeq (cIfS (tNot (cT (cCall (m__law_same 20) (caCons (cV 8) (caCons (cB gAdd (cLst (caCons (cK (.bl true)) (caCons (cK (.bl true)) caNil))) (cB gMul (cLst (caCons (cK (.bl false)) caNil)) (cK (.int 5)))) caNil))))) (cRet (cK (.bl false))) cNext)
    (cSeq (cAsg (tgN 10) (cLst (caCons (cV 5) (caCons (cCall gList (caCons (cV 5) caNil)) (caCons (cB gAdd (cV 5) (cTup (caCons (cK (.int 0)) caNil))) (caCons (cSl (cV 5) (coS (cK (.int 1))) coN) (caCons (cK .non) (caCons (cB gAdd (cSl (cV 5) coN (coS (cU gNeg (cK (.int 1))))) (cTup (caCons (cK (.int 2)) caNil))) (caCons (cB gAdd (cSl (cV 5) coN (coS (cU gNeg (cK (.int 1))))) (cTup (caCons (cK (.bl true)) caNil))) (caCons (cB gAdd (cSl (cV 5) coN (coS (cU gNeg (cK (.int 1))))) (cTup (caCons (cU gNeg (cK (.int 1))) caNil))) caNil))))))))))
    (cSeq (cIfS (tNot (cT (cCall (m__law_same 20) (caCons (cLc (ciSeq (cV 10)) (tgN 13) ctYes (cCall m_is_bits (caCons (cV 13) (caCons (cV 2) caNil))) [13]) (caCons (cB gAdd (cLst (caCons (cK (.bl true)) caNil)) (cB gMul (cLst (caCons (cK (.bl false)) caNil)) (cK (.int 7)))) caNil))))) (cRet (cK (.bl false))) cNext)
    (cSeq (cAsg (tgN 9) (cLst (caCons (cK (.int 0)) (caCons (cK (.int 255)) (caCons (cK (.int 256)) (caCons (cU gNeg (cK (.int 1))) (caCons (cK (.bl true)) (caCons (cK .non) (caCons (cK (.str "0")) caNil)))))))))
    (cSeq (cAsg (tgN 11) (cLst (caCons (cTup caNil) (caCons (cTup (caCons (cK (.int 0)) (caCons (cK (.int 255)) caNil))) (caCons (cTup (caCons (cK (.int 256)) caNil)) (caCons (cLst (caCons (cK (.int 1)) caNil)) (caCons (cTup (caCons (cK (.bl true)) caNil)) (caCons (cK .non) caNil))))))))
    (cSeq (cIfS (tNot (cT (cCall (m__law_same 20) (caCons (cLst (caCons (cLc (ciSeq (cV 9)) (tgN 13) ctYes (cCall m_is_byte (caCons (cV 13) caNil)) [13]) (caCons (cLc (ciSeq (cV 11)) (tgN 13) ctYes (cCall m_are_bytes (caCons (cV 13) caNil)) [13]) (caCons (cK (.int 256)) caNil)))) (caCons (cLst (caCons (cB gAdd (cLst (caCons (cK (.bl true)) (caCons (cK (.bl true)) caNil))) (cB gMul (cLst (caCons (cK (.bl false)) caNil)) (cK (.int 5)))) (caCons (cB gAdd (cLst (caCons (cK (.bl true)) (caCons (cK (.bl true)) caNil))) (cB gMul (cLst (caCons (cK (.bl false)) caNil)) (cK (.int 4)))) (caCons (cK (.int 256)) caNil)))) caNil))))) (cRet (cK (.bl false))) cNext)
    (cSeq (cAsg (tgN 12) (cCall gTuple (caCons (cLc (ciR1 (caCons (cCall m__law_next (caCons (cV 1) (caCons (cK (.int 4)) caNil))) caNil)) (tgN 14) ctYes (cCall m__law_next (caCons (cV 1) (caCons (cB gShl (cK (.int 1)) (cV 2)) caNil))) [14]) caNil)))
    (cSeq (cAsg (tgN 10) (cLst (caCons (cV 12) (caCons (cCall gList (caCons (cV 12) caNil)) (caCons (cB gAdd (cV 12) (cTup (caCons (cB gShl (cK (.int 1)) (cV 2)) caNil))) (caCons (cB gAdd (cV 12) (cTup (caCons (cK (.bl true)) caNil))) (caCons (cB gAdd (cV 12) (cTup (caCons (cU gNeg (cK (.int 1))) caNil))) (caCons (cK .non) (caCons (cTup caNil) caNil)))))))))
    (cRet (cCall (m__law_same 20) (caCons (cLc (ciSeq (cV 10)) (tgN 13) ctYes (cCall m_are_words (caCons (cV 13) (caCons (cV 2) caNil))) [13]) (caCons (cB gAdd (cB gAdd (cLst (caCons (cK (.bl true)) caNil)) (cB gMul (cLst (caCons (cK (.bl false)) caNil)) (cK (.int 5)))) (cLst (caCons (cK (.bl true)) caNil))) caNil)))))))))))))))))))))))
noncomputable def m_law : Sem' := runF 15 c_law
end K01

namespace K01
open MP PySem L2
def T (ns : List Int) (i rest st : Int) : List O := [.lst [.lst (ns.map D.int), .int i, .int rest, .int st]]
structure StOk (i rest st : Int) : Prop where
  i0 : 0 ≤ i
  r0 : 0 ≤ rest
  s0 : 0 ≤ st
theorem next_ok {ns : List Int} {i rest st many : Int} (t : StOk i rest st) (hm : 0 < many ∧ many < 1073741824) :
    ∃ r i' rest' st', StOk i' rest' st' ∧ 0 ≤ r ∧ r < many ∧ m__law_next [.ref 0 0, .int many] [T ns i rest st] = .ok (.int r) [T ns i' rest' st'] := by
  obtain ⟨hi, hr, hs⟩ := t
  have hmod : ∀ x : Int, 0 ≤ x % many ∧ x % many < many := fun x => ⟨Int.emod_nonneg _ (by omega), Int.emod_lt_of_pos _ hm.1⟩
  by_cases h0 : rest = 0
  · subst h0
    by_cases hl : i < ns.length
    · by_cases hc : (if ns[i.toNat]'(by omega) < 0 then -ns[i.toNat]'(by omega) else ns[i.toNat]'(by omega)) < 1000000000000000000
      · refine ⟨_, _, _, _, ?_, ?_, ?_, by simp [m__law_next, c__law_next, runF_eq, T, look, atI_nn, hm, ixN, D.les, D.le, put, hl, hi, hc]; exact ⟨rfl, rfl, rfl, rfl⟩⟩
        · exact ⟨by omega, by omega, Int.emod_nonneg _ (by decide)⟩
        · exact (hmod _).1
        · exact (hmod _).2
      · refine ⟨_, _, _, _, ?_, ?_, ?_, by simp [m__law_next, c__law_next, runF_eq, T, look, atI_nn, hm, ixN, D.les, D.le, put, hl, hi, hc]; exact ⟨rfl, rfl, rfl, rfl⟩⟩
        · refine ⟨by omega, ?_, hs⟩
          have : 0 ≤ (if ns[i.toNat]'(by omega) < 0 then -ns[i.toNat]'(by omega) else ns[i.toNat]'(by omega)) := by split <;> omega
          exact Int.ediv_nonneg this (by omega)
        · exact (hmod _).1
        · exact (hmod _).2
    · refine ⟨_, _, _, _, ?_, ?_, ?_, by simp [m__law_next, c__law_next, runF_eq, T, look, atI_nn, hm, ixN, D.les, D.le, put, hl]; exact ⟨rfl, rfl, rfl, rfl⟩⟩
      · exact ⟨by omega, by omega, Int.emod_nonneg _ (by decide)⟩
      · exact (hmod _).1
      · exact (hmod _).2
  · refine ⟨_, _, _, _, ?_, ?_, ?_, by simp [m__law_next, c__law_next, runF_eq, T, look, atI_nn, h0, hm, ixN, D.les, D.le, put]; exact ⟨rfl, rfl, rfl, rfl⟩⟩
    · exact ⟨by omega, Int.ediv_nonneg hr (by omega), hs⟩
    · exact (hmod _).1
    · exact (hmod _).2
theorem same_eq : m__law_same = m_same := by
  funext k
  induction k with
  | zero => rfl
  | succ k ih =>
    show runF 3 (c__law_same (m__law_same k)) = runF 3 (c_same (m_same k))
    rw [ih]
    rfl
/-! ### what the program's defs tell -/
theorem count_i (i : Int) (S : Sto) : m_is_count [.int i] S = .ok (.bl (decide (0 ≤ i))) S := by
  simp [m_is_count, c_is_count, runF_eq]
theorem count_b (i : Bool) (S : Sto) : m_is_count [.bl i] S = .ok (.bl false) S := by
  simp [m_is_count, c_is_count, runF_eq]
theorem count_n (S : Sto) : m_is_count [.non] S = .ok (.bl false) S := by
  simp [m_is_count, c_is_count, runF_eq]
theorem count_s (x : Str) (S : Sto) : m_is_count [.str x] S = .ok (.bl false) S := by
  simp [m_is_count, c_is_count, runF_eq]
theorem count_t (x : List D) (S : Sto) : m_is_count [.tup x] S = .ok (.bl false) S := by
  simp [m_is_count, c_is_count, runF_eq]
theorem count_l (x : List D) (S : Sto) : m_is_count [.lst x] S = .ok (.bl false) S := by
  simp [m_is_count, c_is_count, runF_eq]
/-- a count, of any value -/
def isCount : D → Bool
  | .int i => decide (0 ≤ i)
  | _ => false
def plain : D → Bool
  | .int _ => true | .bl _ => true | .non => true | .str _ => true | .tup _ => true | .lst _ => true
  | _ => false
theorem count_any (d : D) (S : Sto) (h : plain d = true) : m_is_count [d] S = .ok (.bl (isCount d)) S := by
  cases d <;> first | cases h | skip
  · exact count_n S
  · exact count_b _ S
  · exact count_i _ S
  · exact count_s _ S
  · exact count_t _ S
  · exact count_l _ S
def isWidth : D → Bool
  | .int i => decide (1 ≤ i ∧ i ≤ 16)
  | _ => false
theorem width_any (d : D) (S : Sto) (h : plain d = true) : m_is_width [d] S = .ok (.bl (isWidth d)) S := by
  cases d <;> first | cases h | skip
  all_goals simp [m_is_width, c_is_width, runF_eq, count_i, count_b, count_n, count_s, count_t, count_l, isWidth]
  rename_i i
  by_cases h0 : 0 ≤ i
  · by_cases h1 : 1 ≤ i
    · simp [h0, h1]
    · simp [h0, h1]
  · have : ¬ 1 ≤ i := by omega
    simp [h0, this]
def isWord (w : Nat) : D → Bool
  | .int i => decide (0 ≤ i ∧ i < 2 ^ w)
  | _ => false
theorem word_any (d : D) (w : Nat) (S : Sto) (h : plain d = true) (hw : w ≤ 1000) : m_is_word [d, .int w] S = .ok (.bl (isWord w d)) S := by
  have hw2 : (w : Int) ≤ 1000000 := by omega
  cases d <;> first | cases h | skip
  all_goals simp [m_is_word, c_is_word, runF_eq, count_i, count_b, count_n, count_s, count_t, count_l, isWord, hw2]
  rename_i i
  by_cases h0 : 0 ≤ i
  · simp [h0]
  · simp [h0]
theorem byte_any (d : D) (S : Sto) (h : plain d = true) : m_is_byte [d] S = .ok (.bl (isWord 8 d)) S := by
  cases d <;> first | cases h | skip
  all_goals simp [m_is_byte, c_is_byte, runF_eq, count_i, count_b, count_n, count_s, count_t, count_l, isWord]
  rename_i i
  by_cases h0 : 0 ≤ i
  · simp [h0]
  · simp [h0]
/-! ### the lists -/
theorem lc_words {w : Nat} {xs : List D} {S : Sto} {ρ : Ro} (h : xs.all plain = true) (hw : w ≤ 1000) (c : C) (i : Nat) (hc : ∀ d ∈ xs, c (ρ.set i (some d)) S = m_is_word [d, .int w] S) :
    lcL (tgN i) ctYes c ρ xs S = .ok (xs.map fun d => .bl (isWord w d)) S :=
  lc_map i _ ρ S _ xs fun d hd => by rw [hc d hd, word_any d w S (List.all_eq_true.mp h d hd) hw]
theorem map_bl (xs : List D) (f : D → Bool) : (xs.map fun d => D.bl (f d)) = (xs.map f).map D.bl := by simp
theorem words_t (xs : List D) (w : Nat) (S : Sto) (h : xs.all plain = true) (hw : w ≤ 1000) (hl : xs.length ≤ 16000000) : m_are_words [.tup xs, .int w] S = .ok (.bl (xs.all (isWord w))) S := by
  have e := lc_words (w := w) (S := [] :: S) (ρ := [some (.tup xs), some (.int w), none]) h hw (cCall m_is_word (caCons (cV 2) (caCons (cV 1) caNil))) 2 (fun d _ => by simp)
  have e2 : gAll [.lst (xs.map fun d => .bl (isWord w d))] ([] :: S) = .ok (.bl (xs.all (isWord w))) ([] :: S) := by
    rw [map_bl, gAll_l _ _ (toBls_map _)]
    simp [List.all_map, Function.comp_def]
  simp [m_are_words, c_are_words, runF_eq, e, e2, hl]
theorem words_n (d : D) (w : Nat) (S : Sto) (h : (∃ xs, d = .lst xs) ∨ d = .non) : m_are_words [d, .int w] S = .ok (.bl false) S := by
  rcases h with ⟨xs, rfl⟩ | rfl <;> simp [m_are_words, c_are_words, runF_eq]
theorem bytes_t (xs : List D) (S : Sto) (h : xs.all plain = true) (hl : xs.length ≤ 16000000) : m_are_bytes [.tup xs] S = .ok (.bl (xs.all (isWord 8))) S := by
  have e : lcL (tgN 1) ctYes (cCall m_is_byte (caCons (cV 1) caNil)) [some (.tup xs), none] xs ([] :: S) = .ok (xs.map fun d => .bl (isWord 8 d)) ([] :: S) :=
    lc_map 1 _ _ _ _ xs fun d hd => by simp [byte_any d _ (List.all_eq_true.mp h d hd)]
  have e2 : gAll [.lst (xs.map fun d => .bl (isWord 8 d))] ([] :: S) = .ok (.bl (xs.all (isWord 8))) ([] :: S) := by
    rw [map_bl, gAll_l _ _ (toBls_map _)]
    simp [List.all_map, Function.comp_def]
  simp [m_are_bytes, c_are_bytes, runF_eq, e, e2, hl]
theorem bytes_n (d : D) (S : Sto) (h : (∃ xs, d = .lst xs) ∨ d = .non) : m_are_bytes [d] S = .ok (.bl false) S := by
  rcases h with ⟨xs, rfl⟩ | rfl <;> simp [m_are_bytes, c_are_bytes, runF_eq]
theorem bits_t (xs : List D) (n : Int) (S : Sto) (h : xs.all plain = true) (hl : xs.length ≤ 16000000) : m_is_bits [.tup xs, .int n] S = .ok (.bl (decide ((xs.length : Int) = n) && xs.all (isWord 1))) S := by
  have e := lc_words (w := 1) (S := [] :: S) (ρ := [some (.tup xs), some (.int n), none]) h (by decide) (cCall m_is_word (caCons (cV 2) (caCons (cK (.int 1)) caNil))) 2 (fun d _ => by simp)
  have e2 : gAll [.lst (xs.map fun d => .bl (isWord 1 d))] ([] :: S) = .ok (.bl (xs.all (isWord 1))) ([] :: S) := by
    rw [map_bl, gAll_l _ _ (toBls_map _)]
    simp [List.all_map, Function.comp_def]
  by_cases q : (xs.length : Int) = n
  · simp [m_is_bits, c_is_bits, runF_eq, e, e2, hl, q]
  · simp [m_is_bits, c_is_bits, runF_eq, e, e2, hl, q]
theorem bits_n (d : D) (n : Int) (S : Sto) (h : (∃ xs, d = .lst xs) ∨ d = .non) : m_is_bits [d, .int n] S = .ok (.bl false) S := by
  rcases h with ⟨xs, rfl⟩ | rfl <;> simp [m_is_bits, c_is_bits, runF_eq]
/-! ### numbers -/
def bit (x : Int) (k : Nat) : Int := x / 2 ^ k % 2
def bitsD (x : Int) (n : Nat) : List D := (List.range n).map fun k => .int (bit x k)
theorem and1 (x : Int) : PySem.Builtin.bitAnd x 1 = x % 2 := PyProof.Rows.bitAnd_m1 x
theorem bits_of (x : Int) (n : Nat) (S : Sto) (hn : n ≤ 1000) : m_bits_of [.int x, .int n] S = .ok (.tup (bitsD x n)) S := by
  have e : lcL (tgN 2) ctYes (cB gAnd (cB gShr (cV 0) (cV 2)) (cK (.int 1))) [some (.int x), some (.int n), none] (rngD 0 n) ([] :: S) = .ok (bitsD x n) ([] :: S) := by
    refine lc_rng _ _ _ _ _ _ _ fun k hk => ?_
    simp [and1, bit]
  have h1 : (-16000000 : Int) ≤ n := by omega
  have h2 : (n : Int) ≤ 16000000 := by omega
  have h3 : n ≤ 16000000 := by omega
  simp [m_bits_of, c_bits_of, runF_eq, h1, h2, h3, e]
theorem mask (x : Int) (k : Nat) : PySem.Builtin.bitAnd x (2 ^ k - 1) = x % 2 ^ k := by
  by_cases hx : 0 ≤ x
  · exact Bits.bitAnd_mask k hx
  · have hp : (0 : Int) < 2 ^ k := Int.pow_pos (by decide)
    rw [PyProof.Rows.bitAnd_np hx (by omega)]
    have e : ((2 : Int) ^ k - 1).toNat = 2 ^ k - 1 := by
      have : ((2 : Int) ^ k) = ((2 ^ k : Nat) : Int) := by simp
      omega
    rw [e, Nat.and_comm, Nat.and_two_pow_sub_one_eq_mod]
    have e2 : PySem.Builtin.bitNot x = -x - 1 := by unfold PySem.Builtin.bitNot; omega
    rw [e2]
    have e3 : (((-x - 1).toNat % 2 ^ k : Nat) : Int) = (-x - 1) % 2 ^ k := by
      rw [Int.natCast_emod]
      congr 1
      · omega
    rw [e3]
    have h1 := Int.emod_add_mul_ediv (-x - 1) (2 ^ k)
    have h2 := Int.emod_nonneg (-x - 1) (b := 2 ^ k) (by omega)
    have h3 := Int.emod_lt_of_pos (-x - 1) hp
    generalize (-x - 1) % 2 ^ k = r at *
    generalize (-x - 1) / 2 ^ k = q at *
    have : x = (2 ^ k - 1 - r) + 2 ^ k * (-1 - q) := by
      rw [Int.mul_sub]; omega
    rw [this, Int.add_mul_emod_self_left, Int.emod_eq_of_lt (by omega) (by omega)]
theorem cut (x : Int) (w : Nat) (S : Sto) (hw : w ≤ 1000) : m_cut_word [.int x, .int w] S = .ok (.int (x % 2 ^ w)) S := by
  have h2 : (w : Int) ≤ 1000000 := by omega
  simp [m_cut_word, c_cut_word, runF_eq, h2, mask]
/-! ### word_of -/
def sumB (x : Int) : Nat → Int
  | 0 => 0
  | n + 1 => sumB x n + bit x n * 2 ^ n
theorem sumB_eq (x : Int) (hx : 0 ≤ x) : ∀ n : Nat, sumB x n = x % 2 ^ n
  | 0 => by simp [sumB, Int.emod_one]
  | n + 1 => by
    rw [sumB, sumB_eq x hx n, bit]
    have hp : (0 : Int) < 2 ^ n := Int.pow_pos (by decide)
    have e : (2 : Int) ^ (n + 1) = 2 ^ n * 2 := Int.pow_succ ..
    have h1 := Int.emod_add_mul_ediv x (2 ^ n)
    have h2 := Int.emod_add_mul_ediv (x / 2 ^ n) 2
    have h3 := Int.emod_nonneg x (b := 2 ^ n) (by omega)
    have h4 := Int.emod_lt_of_pos x hp
    have h5 := Int.emod_nonneg (x / 2 ^ n) (b := 2) (by omega)
    have h6 := Int.emod_lt_of_pos (x / 2 ^ n) (b := 2) (by omega)
    generalize x / 2 ^ n % 2 = b at *
    generalize x / 2 ^ n / 2 = q at *
    generalize x % 2 ^ n = r at *
    rw [e]
    generalize (2 : Int) ^ n = m at *
    have h7 : x = (r + b * m) + m * 2 * q := by
      rw [← h1, ← h2, Int.mul_add, Int.mul_comm m b, Int.mul_assoc]
      omega
    have hb : b = 0 ∨ b = 1 := by omega
    rw [h7, Int.add_mul_emod_self_left]
    rcases hb with hb | hb
    · subst hb
      rw [Int.emod_eq_of_lt (by omega) (by omega)]
    · subst hb
      rw [Int.emod_eq_of_lt (by omega) (by omega)]
theorem bits_at (x : Int) (n k : Nat) (h : k < n) : atI (bitsD x n) (k : Int) = some (.int (bit x k)) := by
  rw [atI_nn (by omega)]
  simp [bitsD, h]
theorem bit_01 (x : Int) (k : Nat) : 0 ≤ bit x k ∧ bit x k < 2 := ⟨Int.emod_nonneg _ (by decide), Int.emod_lt_of_pos _ (by decide)⟩
theorem word_of (x : Int) (n : Nat) (S : Sto) (hx : 0 ≤ x) (hn : n ≤ 1000) : m_word_of [.tup (bitsD x n)] S = .ok (.int (x % 2 ^ n)) S := by
  have go : ∀ (m : Nat) (k0 : Nat) (d : Option D), k0 + m = n → forL (tgN 2) (cAug 1 gIAdd (cB gShl (cB gIx (cV 0) (cV 2)) (cV 2))) ((List.range' k0 m).map fun (k : Nat) => D.int (0 + (k : Int))) [some (.tup (bitsD x n)), some (.int (sumB x k0)), d] ([] :: S)
      = .nx [some (.tup (bitsD x n)), some (.int (sumB x n)), if m = 0 then d else some (.int ((n : Int) - 1))] ([] :: S) := by
    intro m
    induction m with
    | zero =>
      intro k0 d e
      have : k0 = n := by omega
      subst this
      simp
    | succ m ih =>
      intro k0 d e
      have hb := bit_01 x k0
      have h1 : (k0 : Int) ≤ 1000000 := by omega
      have h2 : (bit x k0).natAbs < 18446744073709551616 := by omega
      have := ih (k0 + 1) (some (.int (k0 : Int))) (by omega)
      rw [List.range'_succ, List.map_cons, forL_cons]
      simp [bits_at x n k0 (by omega), h1, h2]
      rw [show sumB x k0 + bit x k0 * 2 ^ k0 = sumB x (k0 + 1) from rfl, show (fun (k : Nat) => D.int (k : Int)) = (fun (k : Nat) => D.int (0 + (k : Int))) from by simp, this]
      by_cases hm : m = 0
      · simp [hm]; omega
      · simp [hm]
  have h1 : (-16000000 : Int) ≤ n := by omega
  have h2 : (n : Int) ≤ 16000000 := by omega
  have e := go n 0 none (by omega)
  rw [← List.range_eq_range'] at e
  have e2 : (bitsD x n).length = n := by simp [bitsD]
  have e3 : rngD 0 n = (List.range n).map fun (k : Nat) => D.int (0 + (k : Int)) := rfl
  simp only [show sumB x 0 = 0 from rfl] at e
  simp [m_word_of, c_word_of, runF_eq, e2, h1, h2, e3]
  simp only [show (fun (k : Nat) => D.int (k : Int)) = (fun (k : Nat) => D.int (0 + (k : Int))) from by simp, e]
  simp [sumB_eq x hx]
/-! ### one_count, number_width -/
def ones : Nat → Int → Int
  | 0, _ => 0
  | n + 1, x => x % 2 + ones n (x / 2)
theorem one_count (n : Nat) (x : Int) (S : Sto) (hx : 0 ≤ x) (hn : x < 2 ^ n) : m_one_count [.int x] S = .ok (.int (ones n x)) S := by
  have go : ∀ (n : Nat) (x f : Int), 0 ≤ x → x < 2 ^ n → cWhile (cTB (cB gGt (cV 0) (cK (.int 0)))) (cPar [1, 0] (caCons (cB gAdd (cV 1) (cB gAnd (cV 0) (cK (.int 1)))) (caCons (cB gShr (cV 0) (cK (.int 1))) caNil))) [some (.int x), some (.int f)] ([] :: S)
      = .nx [some (.int 0), some (.int (f + ones n x))] ([] :: S) := by
    intro n
    induction n with
    | zero =>
      intro x f h0 h1
      have : x = 0 := by simp at h1; omega
      subst this
      rw [cWhile_end (S1 := [] :: S) (by simp)]
      simp [ones]
    | succ n ih =>
      intro x f h0 h1
      by_cases hz : x = 0
      · subst hz
        rw [cWhile_end (S1 := [] :: S) (by simp)]
        have : ∀ m : Nat, ones m 0 = 0 := by
          intro m
          induction m with
          | zero => rfl
          | succ m ih => simp [ones, ih]
        simp [this]
      · have hp : 0 < x := by omega
        rw [cWhile_go (S1 := [] :: S) (ρ2 := [some (.int (x / 2)), some (.int (f + x % 2))]) (S2 := [] :: S) (by simp [hp]) (by simp [and1])]
        rw [ih (x / 2) (f + x % 2) (Int.ediv_nonneg h0 (by decide)) ?_]
        · simp [ones, Int.add_assoc]
        · rw [Int.pow_succ] at h1
          omega
  simp [m_one_count, c_one_count, runF_eq, go n x 0 hx hn]
theorem number_width (x : Int) (S : Sto) (w : Nat) (hw : 1 ≤ w) (hx : 0 ≤ x) (h1 : x < 2 ^ w) (h2 : ∀ k, 1 ≤ k → k < w → 2 ^ k ≤ x) : m_number_width [.int x] S = .ok (.int w) S := by
  have go : ∀ (m k : Nat), 1 ≤ k → k + m = w → cWhile (cTB (cB gGt (cB gShr (cV 0) (cV 1)) (cK (.int 0)))) (cAug 1 gIAdd (cK (.int 1))) [some (.int x), some (.int k)] ([] :: S) = .nx [some (.int x), some (.int w)] ([] :: S) := by
    intro m
    induction m with
    | zero =>
      intro k hk e
      have : k = w := by omega
      subst this
      have e0 : x / 2 ^ k = 0 := Int.ediv_eq_zero_of_lt hx h1
      rw [cWhile_end (S1 := [] :: S) (by simp [e0])]
    | succ m ih =>
      intro k hk e
      have hp : (0 : Int) < 2 ^ k := Int.pow_pos (by decide)
      have e0 : 0 < x / 2 ^ k := by
        have := Int.le_ediv_of_mul_le (a := 1) (b := x) hp (by have := h2 k hk (by omega); omega)
        omega
      rw [cWhile_go (S1 := [] :: S) (ρ2 := [some (.int x), some (.int ((k + 1 : Nat) : Int))]) (S2 := [] :: S) (by simp [e0]) (by simp)]
      exact ih (k + 1) (by omega) (by omega)
  simp [m_number_width, c_number_width, runF_eq]
  rw [show ([some (.int x), some (.int 1)] : Ro) = [some (.int x), some (.int ((1 : Nat) : Int))] from rfl, go (w - 1) 1 (by omega) (by omega)]
  simp
/-! ### counting -/
theorem pre_count (p : Nat → Bool) (hp : ∀ k, p (k + 1) = true → p k = true) : ∀ n : Nat, ∃ c, c ≤ n ∧ ((List.range n).filter p).length = c ∧ ∀ k, k < n → (p k = true ↔ k < c)
  | 0 => ⟨0, by simp⟩
  | n + 1 => by
    obtain ⟨c, h1, h2, h3⟩ := pre_count p hp n
    have down : ∀ m k, k ≤ m → p m = true → p k = true := by
      intro m
      induction m with
      | zero => intro k hk h; have : k = 0 := by omega
                subst this; exact h
      | succ m ih =>
        intro k hk h
        by_cases e : k = m + 1
        · subst e; exact h
        · exact ih k (by omega) (hp m h)
    rw [List.range_succ, List.filter_append]
    cases q : p n with
    | true =>
      have hc : c = n := by
        apply Classical.byContradiction
        intro hne
        have := (h3 c (by omega)).mp (down n c (by omega) q)
        omega
      subst hc
      refine ⟨c + 1, by omega, by simp [h2, q], fun k hk => ?_⟩
      constructor
      · intro _; omega
      · intro _; exact down c k (by omega) q
    | false =>
      refine ⟨c, by omega, by simp [h2, q], fun k hk => ?_⟩
      by_cases e : k = n
      · subst e
        rw [q]
        constructor
        · intro z; cases z
        · intro z; omega
      · exact h3 k (by omega)
theorem bit_half (x : Int) (k : Nat) : bit x (k + 1) = bit (x / 2) k := by
  unfold bit
  have e : x / 2 / 2 ^ k = x / (2 * 2 ^ k) := by rw [Int.ediv_ediv]; simp
  rw [e, Int.pow_succ, Int.mul_comm]
theorem sum_ones : ∀ (n : Nat) (x : Int), ((List.range n).map (bit x)).sum = ones n x
  | 0, _ => rfl
  | n + 1, x => by
    rw [List.range_succ_eq_map, List.map_cons, List.sum_cons, List.map_map, ones, ← sum_ones n (x / 2)]
    congr 1
    · simp [bit]
    · congr 1
      apply List.map_congr_left
      intro k _
      exact bit_half x k
theorem pow30 : ∀ k : Nat, k < 30 → (2 : Int) ^ k < 1073741824 := by decide
theorem pow_pos (k : Nat) : (0 : Int) < 2 ^ k := Int.pow_pos (by decide)
theorem rows_ok {ns : List Int} {w : Nat} (hw : w ≤ 16) : ∀ (ds : List D) (i q s : Int), StOk i q s → ∃ (rs : List Int) (i' q' s' : Int), StOk i' q' s' ∧ rs.length = ds.length ∧ (∀ r ∈ rs, 0 ≤ r ∧ r < 2 ^ w) ∧
    ∀ a0 a3 a4 a5 a6 a7 a8 a9 a10 a11 a12 a13 a14 : Option D, lcL (tgN 14) ctYes (cCall m__law_next (caCons (cV 1) (caCons (cB gShl (cK (.int 1)) (cV 2)) caNil))) [a0, some (.ref 0 0), some (.int (w : Int)), a3, a4, a5, a6, a7, a8, a9, a10, a11, a12, a13, a14] ds [T ns i q s] = .ok (rs.map D.int) [T ns i' q' s']
  | [], i, q, s, t => ⟨[], i, q, s, t, rfl, by simp, by intros; rfl⟩
  | d :: ds, i, q, s, t => by
    have h2 : (w : Int) ≤ 1000000 := by omega
    obtain ⟨r, i1, q1, s1, t1, a, b, e⟩ := next_ok (ns := ns) t (many := 2 ^ w) ⟨pow_pos w, pow30 w (by omega)⟩
    obtain ⟨rs, i2, q2, s2, t2, h3, h4, e2⟩ := rows_ok (ns := ns) hw ds i1 q1 s1 t1
    refine ⟨r :: rs, i2, q2, s2, t2, by simp [h3], ?_, ?_⟩
    · intro z hz
      rcases List.mem_cons.mp hz with e | e
      · subst e; exact ⟨a, b⟩
      · exact h4 z e
    · intros
      rw [lcL_cons]
      simp [h2, e, e2]
def isBits (w : Nat) : D → Bool
  | .tup xs => decide ((xs.length : Int) = w) && xs.all (isWord 1)
  | _ => false
def areWords (w : Nat) : D → Bool
  | .tup xs => xs.all (isWord w)
  | _ => false
@[simp] theorem bitsD_len (x : Int) (n : Nat) : (bitsD x n).length = n := by simp [bitsD]
theorem bitsD_plain (x : Int) (n : Nat) : (bitsD x n).all plain = true := by simp [bitsD, plain]
theorem bitsD_word (x : Int) (n : Nat) : (bitsD x n).all (isWord 1) = true := by
  simp [bitsD, isWord]
  intro k _
  exact bit_01 x k
theorem flats_map {α : Type} (f : α → D) (n : Nat) : ∀ (xs : List α), (∀ x ∈ xs, D.flat n (f x) = true) → D.flats n (xs.map f) = true
  | [], _ => by simp [D.flats]
  | x :: xs, h => by simp [D.flats, h x List.mem_cons_self, flats_map f n xs fun y hy => h y (List.mem_cons_of_mem _ hy)]
theorem bitsD_flat (x : Int) (n k : Nat) : D.flats (k + 1) (bitsD x n) = true := flats_map _ _ _ fun _ _ => rfl
def okB : D → Bool
  | .tup xs => xs.all plain && decide (xs.length ≤ 16000000)
  | .lst _ => true
  | .non => true
  | _ => false
theorem bits_any (d : D) (w : Nat) (S : Sto) (h : okB d = true) : m_is_bits [d, .int w] S = .ok (.bl (isBits w d)) S := by
  cases d <;> first | cases h | skip
  · exact bits_n _ _ _ (.inr rfl)
  · simp only [okB, Bool.and_eq_true, decide_eq_true_eq] at h
    exact bits_t _ _ _ h.1 h.2
  · exact bits_n _ _ _ (.inl ⟨_, rfl⟩)
theorem words_any (d : D) (w : Nat) (S : Sto) (h : okB d = true) (hw : w ≤ 1000) : m_are_words [d, .int w] S = .ok (.bl (areWords w d)) S := by
  cases d <;> first | cases h | skip
  · exact words_n _ _ _ (.inr rfl)
  · simp only [okB, Bool.and_eq_true, decide_eq_true_eq] at h
    exact words_t _ _ _ h.1 hw h.2
  · exact words_n _ _ _ (.inl ⟨_, rfl⟩)
theorem bytes_any (d : D) (S : Sto) (h : okB d = true) : m_are_bytes [d] S = .ok (.bl (areWords 8 d)) S := by
  cases d <;> first | cases h | skip
  · exact bytes_n _ _ (.inr rfl)
  · simp only [okB, Bool.and_eq_true, decide_eq_true_eq] at h
    exact bytes_t _ _ h.1 h.2
  · exact bytes_n _ _ (.inl ⟨_, rfl⟩)
theorem law_holds (ns : List Int) (h : ns.length ≤ 63) : m_law [.rol (ns.map D.int)] [] = .ok (.bl true) [] := by
  obtain ⟨r0, i1, q1, s1, t1, a0, b0, e0⟩ := next_ok (ns := ns) (i := 0) (rest := 0) (st := 1) (many := 16) ⟨by decide, by decide, by decide⟩ (by decide)
  obtain ⟨w, hw⟩ : ∃ w : Nat, 1 + r0 = w := ⟨(1 + r0).toNat, by omega⟩
  have hw1 : 1 ≤ w ∧ w ≤ 16 := by omega
  have hw2 : (w : Int) ≤ 1000000 := by omega
  have hw3 : (w : Int) ≤ 16000000 := by omega
  have hw4 : w ≤ 16000000 := by omega
  have hw5 : (-16000000 : Int) ≤ w := by omega
  have p16 : (2 : Int) ^ w < 1073741824 := pow30 w (by omega)
  have p0 : (0 : Int) < 2 ^ w := pow_pos w
  obtain ⟨x, i2, q2, s2, t2, a1, b1, e1⟩ := next_ok (ns := ns) t1 (many := 2 ^ w) ⟨p0, p16⟩
  obtain ⟨o, i3, q3, s3, t3, a2, b2, e2⟩ := next_ok (ns := ns) t2 (many := 262144) (by decide)
  obtain ⟨g, i4, q4, s4, t4, a3, b3, e3⟩ := next_ok (ns := ns) t3 (many := 1048576) (by decide)
  obtain ⟨n, i5, q5, s5, t5, a4, b4, e4⟩ := next_ok (ns := ns) t4 (many := 4) (by decide)
  obtain ⟨c, c1, c2, c3⟩ := pre_count (fun k => decide ((2 : Int) ^ (1 + k) ≤ g)) (fun k hk => by
    simp only [decide_eq_true_eq] at hk ⊢
    have : (2 : Int) ^ (1 + k) ≤ 2 ^ (1 + (k + 1)) := by
      rw [show 1 + (k + 1) = (1 + k) + 1 by omega, Int.pow_succ]
      have := pow_pos (1 + k)
      omega
    omega) 29
  have c19 : c ≤ 19 := by
    apply Classical.byContradiction
    intro hc
    have := (c3 19 (by omega)).mpr (by omega)
    simp only [decide_eq_true_eq] at this
    have e20 : (2 : Int) ^ (1 + 19) = 1048576 := by decide
    omega
  have nw : m_number_width [.int g] = fun S => .ok (.int ((1 + c : Nat) : Int)) S := by
    funext S
    refine number_width g S (1 + c) (by omega) a3 ?_ ?_
    · have := c3 c (by omega)
      simp only [Nat.lt_irrefl, iff_false, decide_eq_true_eq] at this
      omega
    · intro k hk1 hk2
      have := (c3 (k - 1) (by omega)).mpr (by omega)
      simp only [decide_eq_true_eq] at this
      rw [show 1 + (k - 1) = k by omega] at this
      exact this
  have oc : ∀ S, m_one_count [.int g] S = .ok (.int (ones 20 g)) S := fun S => one_count 20 g S a3 (by rw [show (2 : Int) ^ 20 = 1048576 by decide]; exact b3)
  have wo : ∀ S, m_word_of [.tup (bitsD x w)] S = .ok (.int x) S := fun S => by
    rw [word_of x w S a1 (by omega), Int.emod_eq_of_lt a1 b1]
  have bo : ∀ S, m_bits_of [.int x, .int (w : Int)] S = .ok (.tup (bitsD x w)) S := fun S => bits_of x w S (by omega)
  have cw : ∀ (y : Int) S, m_cut_word [.int y, .int (w : Int)] S = .ok (.int (y % 2 ^ w)) S := fun y S => cut y w S (by omega)
  simp only [T] at e0 e1 e2 e3 e4
  simp [m_law, c_law, runF_eq, newAt, D.les, D.le, e0, hw, hw2, hw3, hw4, hw5, e1, e2]
  rw [lc_rng (f := fun k => .int (bit x k)) (h := fun k hk => by
    have h1 := pow30 k (by omega)
    have h2 := pow_pos k
    simp [show k ≤ 1000000 by omega, show (k : Int) ≤ 1000000 by omega, h1, h2, and1, bit])]
  rw [show ((List.range w).map fun k => D.int (bit x k)) = bitsD x w from rfl]
  simp [e3]
  rw [lc_rngF (p := fun k => decide ((2 : Int) ^ (1 + k) ≤ g)) (f := fun k => .int (1 + (k : Int))) (hq := fun k hk => by
    have h1 : (1 + (k : Int)).toNat = 1 + k := by omega
    have h2 : (0 : Int) ≤ 1 + (k : Int) := by omega
    have h3 : (1 + (k : Int)) ≤ 1000000 := by omega
    simp [h1, h2, h3]) (h := fun k hk _ => by simp)]
  simp [c2, bo, wo, cw, oc, nw]
  simp [hw2, p0]
  rw [lc_rng (f := fun k => .int (bit g k)) (h := fun k hk => by simp [and1, bit])]
  have es : ∀ S, gSum [.lst ((List.range 20).map fun k => .int (bit g k))] S = .ok (.int (ones 20 g)) S := fun S => by
    rw [gSum_l _ _ (ns := (List.range 20).map (bit g)) (by rw [← toInts_map ((List.range 20).map (bit g)), List.map_map]; rfl), sum_ones]
  have f1 : D.flat 20 (D.lst [D.tup (bitsD x w), D.int x, D.int ((o - 131072) % 2 ^ w), D.int (ones 20 g), D.int (1 + c), D.int 16]) = true := by
    simp [D.flat, D.flats, hw4, bitsD_flat x w 17]
  simp [es, same_eq, same_refl _ _ _ f1]
  -- odd values
  rw [lc_map (f := fun d => .bl (isCount d)) (h := fun d hd => by
    have : plain d = true := by
      simp at hd
      rcases hd with rfl | rfl | rfl | rfl | rfl | rfl | rfl | rfl | rfl <;> rfl
    simp [count_any d _ this])]
  simp [isCount]
  rw [lc_map (f := fun d => .bl (isWidth d)) (h := fun d hd => by
    have : plain d = true := by
      simp at hd
      rcases hd with rfl | rfl | rfl | rfl | rfl | rfl | rfl | rfl | rfl <;> rfl
    simp [width_any d _ this])]
  have g1 : (1 : Int) ≤ 2 ^ w := by omega
  simp [isWidth, same_eq, same_refl, D.flat, D.flats, hw2]
  -- words
  rw [lc_map (f := fun d => .bl (isWord w d)) (h := fun d hd => by
    have : plain d = true := by
      simp at hd
      rcases hd with rfl | rfl | rfl | rfl | rfl | rfl | rfl <;> rfl
    simp [word_any d w _ this (by omega)])]
  have g2 : (2 : Int) ^ w - 1 < 2 ^ w := by omega
  simp [isWord, a1, b1, g1, g2, same_eq, same_refl, D.flat, D.flats]
  -- rows of bits
  have k1 : w ≤ 15999999 := by omega
  have k2 : w - 1 + 1 ≤ 16000000 := by omega
  simp [hw4, k1, cutL_last, k2]
  have dl : (bitsD x w).dropLast.length = w - 1 := by simp
  have dp : (bitsD x w).dropLast.all plain = true := by
    rw [List.all_eq_true]
    exact fun d hd => List.all_eq_true.mp (bitsD_plain x w) d (List.dropLast_subset _ hd)
  have tp : (bitsD x w).tail.all plain = true := by
    rw [List.all_eq_true]
    exact fun d hd => List.all_eq_true.mp (bitsD_plain x w) d (List.mem_of_mem_tail hd)
  rw [lc_map (f := fun d => .bl (isBits w d)) (h := fun d hd => by
    have bp := bitsD_plain x w
    have : okB d = true := by
      simp only [List.mem_cons, List.not_mem_nil, or_false] at hd
      rcases hd with rfl | rfl | rfl | rfl | rfl | rfl | rfl | rfl <;> simp [okB, bp, dp, tp, dl, plain] <;> omega
    simp [bits_any d w _ this])]
  have nn : ¬ ((w - 1 : Nat) : Int) = w := by omega
  have nn2 : ¬ ((w : Int) + 1 = w) := by omega
  simp [isBits, bitsD_word x w, isWord, nn, nn2, same_eq, same_refl, D.flat, D.flats]
  -- bytes
  rw [lc_map (f := fun d => .bl (isWord 8 d)) (h := fun d hd => by
    have : plain d = true := by
      simp at hd
      rcases hd with rfl | rfl | rfl | rfl | rfl | rfl | rfl <;> rfl
    simp [byte_any d _ this])]
  simp [isWord]
  rw [lc_map (f := fun d => .bl (areWords 8 d)) (h := fun d hd => by
    have : okB d = true := by
      simp only [List.mem_cons, List.not_mem_nil, or_false] at hd
      rcases hd with rfl | rfl | rfl | rfl | rfl | rfl <;> simp [okB, plain]
    simp [bytes_any d _ this])]
  simp [areWords, isWord, same_eq, same_refl, D.flat, D.flats]
  -- rows of words
  obtain ⟨m, rfl⟩ : ∃ m : Nat, n = m := ⟨n.toNat, by omega⟩
  obtain ⟨rs, i6, q6, s6, t6, rl, rb, e6⟩ := rows_ok (ns := ns) (w := w) hw1.2 (rngD 0 m) i5 q5 s5 t5
  simp only [T] at e6
  simp [e4, show (m : Int) ≤ 16000000 by omega, show m ≤ 16000000 by omega, show (-16000000 : Int) ≤ m by omega, e6]
  have rl2 : rs.length = m := by simpa using rl
  have rp : (rs.map D.int).all plain = true := by simp [plain]
  have rw' : (rs.map D.int).all (isWord w) = true := by
    simp [isWord]
    exact rb
  simp [hw2, rl2, show m ≤ 15999999 by omega]
  rw [lc_map (f := fun d => .bl (areWords w d)) (h := fun d hd => by
    have : okB d = true := by
      simp only [List.mem_cons, List.not_mem_nil, or_false] at hd
      rcases hd with rfl | rfl | rfl | rfl | rfl | rfl | rfl <;> simp [okB, rp, plain, rl2] <;> omega
    simp [words_any d w _ this (by omega)])]
  have rw2 : rs.all (fun a => isWord w (.int a)) = true := by
    simp [isWord]
    exact rb
  simp [areWords, rw', rw2, isWord, same_eq, same_refl, D.flat, D.flats]
end K01

namespace K01
open MP PySem PySem.Spec PyProof.Rows L2
def topS (i : Nat) : Stmt := PySem.Challenge.pw_downtogates_k01_whole_words_and_bits.main.body.getD i (.Pass ⟨0, 0, 0, 0⟩)
abbrev s_is_count : Stmt := topS 3
abbrev N_is_count : List Str := ["value"]
theorem sc_is_count : FnScope N_is_count ["value"] (defScope s_is_count) := ⟨rfl, rfl, rfl, by decide +kernel, rfl, by decide +kernel, by decide +kernel⟩
abbrev s_is_width : Stmt := topS 4
abbrev N_is_width : List Str := ["value"]
theorem sc_is_width : FnScope N_is_width ["value"] (defScope s_is_width) := ⟨rfl, rfl, rfl, by decide +kernel, rfl, by decide +kernel, by decide +kernel⟩
abbrev s_is_word : Stmt := topS 5
abbrev N_is_word : List Str := ["value", "width"]
theorem sc_is_word : FnScope N_is_word ["value", "width"] (defScope s_is_word) := ⟨rfl, rfl, rfl, by decide +kernel, rfl, by decide +kernel, by decide +kernel⟩
abbrev s_are_words : Stmt := topS 6
abbrev N_are_words : List Str := ["value", "width", "one"]
theorem sc_are_words : FnScope N_are_words ["value", "width"] (defScope s_are_words) := ⟨rfl, rfl, rfl, by decide +kernel, rfl, by decide +kernel, by decide +kernel⟩
abbrev s_is_byte : Stmt := topS 7
abbrev N_is_byte : List Str := ["value"]
theorem sc_is_byte : FnScope N_is_byte ["value"] (defScope s_is_byte) := ⟨rfl, rfl, rfl, by decide +kernel, rfl, by decide +kernel, by decide +kernel⟩
abbrev s_are_bytes : Stmt := topS 8
abbrev N_are_bytes : List Str := ["value", "one"]
theorem sc_are_bytes : FnScope N_are_bytes ["value"] (defScope s_are_bytes) := ⟨rfl, rfl, rfl, by decide +kernel, rfl, by decide +kernel, by decide +kernel⟩
abbrev s_cut_word : Stmt := topS 9
abbrev N_cut_word : List Str := ["value", "width"]
theorem sc_cut_word : FnScope N_cut_word ["value", "width"] (defScope s_cut_word) := ⟨rfl, rfl, rfl, by decide +kernel, rfl, by decide +kernel, by decide +kernel⟩
abbrev s_bits_of : Stmt := topS 10
abbrev N_bits_of : List Str := ["word", "width", "k"]
theorem sc_bits_of : FnScope N_bits_of ["word", "width"] (defScope s_bits_of) := ⟨rfl, rfl, rfl, by decide +kernel, rfl, by decide +kernel, by decide +kernel⟩
abbrev s_word_of : Stmt := topS 11
abbrev N_word_of : List Str := ["bits", "total", "k"]
theorem sc_word_of : FnScope N_word_of ["bits"] (defScope s_word_of) := ⟨rfl, rfl, rfl, by decide +kernel, rfl, by decide +kernel, by decide +kernel⟩
abbrev s_is_bits : Stmt := topS 12
abbrev N_is_bits : List Str := ["value", "size", "one"]
theorem sc_is_bits : FnScope N_is_bits ["value", "size"] (defScope s_is_bits) := ⟨rfl, rfl, rfl, by decide +kernel, rfl, by decide +kernel, by decide +kernel⟩
abbrev s_one_count : Stmt := topS 13
abbrev N_one_count : List Str := ["word", "found"]
theorem sc_one_count : FnScope N_one_count ["word"] (defScope s_one_count) := ⟨rfl, rfl, rfl, by decide +kernel, rfl, by decide +kernel, by decide +kernel⟩
abbrev s_number_width : Stmt := topS 14
abbrev N_number_width : List Str := ["number", "size"]
theorem sc_number_width : FnScope N_number_width ["number"] (defScope s_number_width) := ⟨rfl, rfl, rfl, by decide +kernel, rfl, by decide +kernel, by decide +kernel⟩
abbrev s__law_next : Stmt := topS 16
abbrev N__law_next : List Str := ["tape", "many", "rest", "cell"]
theorem sc__law_next : FnScope N__law_next ["tape", "many"] (defScope s__law_next) := ⟨rfl, rfl, rfl, by decide +kernel, rfl, by decide +kernel, by decide +kernel⟩
abbrev s__law_same : Stmt := topS 17
abbrev N__law_same : List Str := ["told", "due", "k"]
theorem sc__law_same : FnScope N__law_same ["told", "due"] (defScope s__law_same) := ⟨rfl, rfl, rfl, by decide +kernel, rfl, by decide +kernel, by decide +kernel⟩
abbrev s_law : Stmt := topS 18
abbrev N_law : List Str := ["script", "tape", "width", "word", "other", "bits", "large", "size", "told", "odd", "some", "lists", "row", "one", "k"]
theorem sc_law : FnScope N_law ["script"] (defScope s_law) := ⟨rfl, rfl, rfl, by decide +kernel, rfl, by decide +kernel, by decide +kernel⟩
structure Tx (K : PySem.W.Frag) (mg : Str → Option Value) : Prop where
  n_abs : mg "abs" = none
  n_all : mg "all" = none
  n_bool : mg "bool" = none
  n_int : mg "int" = none
  n_isinstance : mg "isinstance" = none
  n_len : mg "len" = none
  n_list : mg "list" = none
  n_range : mg "range" = none
  n_str : mg "str" = none
  n_sum : mg "sum" = none
  n_tuple : mg "tuple" = none
  c_BYTE : ∃ t, mg "BYTE" = some (.int 256 t)
  c_WIDEST : ∃ t, mg "WIDEST" = some (.int 16 t)
  f_is_count : ∃ f fd, mg "is_count" = some (.ref f) ∧ Fun K "is_count" "is_count" s_is_count f fd ∧ Binds K fd ["value"] []
  f_is_width : ∃ f fd, mg "is_width" = some (.ref f) ∧ Fun K "is_width" "is_width" s_is_width f fd ∧ Binds K fd ["value"] []
  f_is_word : ∃ f fd, mg "is_word" = some (.ref f) ∧ Fun K "is_word" "is_word" s_is_word f fd ∧ Binds K fd ["value", "width"] []
  f_are_words : ∃ f fd, mg "are_words" = some (.ref f) ∧ Fun K "are_words" "are_words" s_are_words f fd ∧ Binds K fd ["value", "width"] []
  f_is_byte : ∃ f fd, mg "is_byte" = some (.ref f) ∧ Fun K "is_byte" "is_byte" s_is_byte f fd ∧ Binds K fd ["value"] []
  f_are_bytes : ∃ f fd, mg "are_bytes" = some (.ref f) ∧ Fun K "are_bytes" "are_bytes" s_are_bytes f fd ∧ Binds K fd ["value"] []
  f_cut_word : ∃ f fd, mg "cut_word" = some (.ref f) ∧ Fun K "cut_word" "cut_word" s_cut_word f fd ∧ Binds K fd ["value", "width"] []
  f_bits_of : ∃ f fd, mg "bits_of" = some (.ref f) ∧ Fun K "bits_of" "bits_of" s_bits_of f fd ∧ Binds K fd ["word", "width"] []
  f_word_of : ∃ f fd, mg "word_of" = some (.ref f) ∧ Fun K "word_of" "word_of" s_word_of f fd ∧ Binds K fd ["bits"] []
  f_is_bits : ∃ f fd, mg "is_bits" = some (.ref f) ∧ Fun K "is_bits" "is_bits" s_is_bits f fd ∧ Binds K fd ["value", "size"] []
  f_one_count : ∃ f fd, mg "one_count" = some (.ref f) ∧ Fun K "one_count" "one_count" s_one_count f fd ∧ Binds K fd ["word"] []
  f_number_width : ∃ f fd, mg "number_width" = some (.ref f) ∧ Fun K "number_width" "number_width" s_number_width f fd ∧ Binds K fd ["number"] []
  f__law_next : ∃ f fd, mg "_law_next" = some (.ref f) ∧ Fun K "_law_next" "_law_next" s__law_next f fd ∧ Binds K fd ["tape", "many"] []
  f__law_same : ∃ f fd, mg "_law_same" = some (.ref f) ∧ Fun K "_law_same" "_law_same" s__law_same f fd ∧ Binds K fd ["told", "due"] []
section
variable {P : Program} {w : World} {K : PySem.W.Frag} {mg : Str → Option Value} {base : Heap}
theorem fm_is_count (T : Tx K mg) {f : Addr} {fd : FuncData} (F : Fun K "is_count" "is_count" s_is_count f fd) : FM P w K mg base 1 f fd ["value"] m_is_count := by
  exact fm_of F sc_is_count fun cdv A outer s H E hc => (mss_one (ms_ret (me_and (me_callB ks_isi rfl T.n_isinstance (by decide +kernel) (ma_cons (me_v 0) (ma_cons (me_ty rfl T.n_int (by decide +kernel)) ma_nil))) (me_and (me_not (me_callB ks_isi rfl T.n_isinstance (by decide +kernel) (ma_cons (me_v 0) (ma_cons (me_ty rfl T.n_bool (by decide +kernel)) ma_nil)))) (me_one (me_cmp os_ge (me_v 0) me_int (nomark _)))))))
theorem fm_is_width (T : Tx K mg) {f : Addr} {fd : FuncData} (F : Fun K "is_width" "is_width" s_is_width f fd) : FM P w K mg base 2 f fd ["value"] m_is_width := by
  obtain ⟨f_is_count, fd_is_count, g_is_count, F_is_count, b_is_count⟩ := T.f_is_count
  have C_is_count := (fm_is_count T F_is_count : FM P w K mg base _ _ _ _ _)
  exact fm_of F sc_is_width fun cdv A outer s H E hc => (mss_one (ms_ret (me_and (me_call C_is_count hc.tk (hc.room.mono (by decide)) rfl g_is_count b_is_count (ma_cons (me_v 0) ma_nil)) (me_one (me_chain os_le os_le me_int (me_v 0) (me_glob (d := .int 16) (v := .int 16) rfl T.c_WIDEST.choose_spec ⟨_, rfl⟩ fun _ _ => .int _))))))
theorem fm_is_word (T : Tx K mg) {f : Addr} {fd : FuncData} (F : Fun K "is_word" "is_word" s_is_word f fd) : FM P w K mg base 2 f fd ["value", "width"] m_is_word := by
  obtain ⟨f_is_count, fd_is_count, g_is_count, F_is_count, b_is_count⟩ := T.f_is_count
  have C_is_count := (fm_is_count T F_is_count : FM P w K mg base _ _ _ _ _)
  exact fm_of F sc_is_word fun cdv A outer s H E hc => (mss_one (ms_ret (me_and (me_call C_is_count hc.tk (hc.room.mono (by decide)) rfl g_is_count b_is_count (ma_cons (me_v 0) ma_nil)) (me_one (me_cmp os_lt (me_v 0) (me_op os_shl me_int (me_v 1)) (nomark _))))))
theorem fm_are_words (T : Tx K mg) {f : Addr} {fd : FuncData} (F : Fun K "are_words" "are_words" s_are_words f fd) : FM P w K mg base 3 f fd ["value", "width"] m_are_words := by
  obtain ⟨f_is_word, fd_is_word, g_is_word, F_is_word, b_is_word⟩ := T.f_is_word
  have C_is_word := (fm_is_word T F_is_word : FM P w K mg base _ _ _ _ _)
  exact fm_of F sc_are_words fun cdv A outer s H E hc => (mss_one (ms_ret (me_and (me_callB ks_isi rfl T.n_isinstance (by decide +kernel) (ma_cons (me_v 0) (ma_cons (me_ty rfl T.n_tuple (by decide +kernel)) ma_nil))) (me_one (me_callB (ks_all hc.calm) rfl T.n_all (by decide +kernel) (ma_cons (me_lc (own := [("one", 2)]) hc.calm sc_are_words.nd (mi_seq (me_v 0)) (blkOk_by (N := N_are_words) (sc := defScope s_are_words) (by decide +kernel)) ⟨_, gs_name 2, fun _ _ _ _ _ => pg_name (i := 2) sc_are_words.nd rfl (Or.inl rfl)⟩ (fun _ _ _ _ _ => mts_nil) (fun _ _ _ _ _ => (me_call C_is_word takes0 (hc.room.mono (by decide)) rfl g_is_word b_is_word (ma_cons (me_v 2) (ma_cons (me_v 1) ma_nil))))) ma_nil))))))
theorem fm_is_byte (T : Tx K mg) {f : Addr} {fd : FuncData} (F : Fun K "is_byte" "is_byte" s_is_byte f fd) : FM P w K mg base 2 f fd ["value"] m_is_byte := by
  obtain ⟨f_is_count, fd_is_count, g_is_count, F_is_count, b_is_count⟩ := T.f_is_count
  have C_is_count := (fm_is_count T F_is_count : FM P w K mg base _ _ _ _ _)
  exact fm_of F sc_is_byte fun cdv A outer s H E hc => (mss_one (ms_ret (me_and (me_call C_is_count hc.tk (hc.room.mono (by decide)) rfl g_is_count b_is_count (ma_cons (me_v 0) ma_nil)) (me_one (me_cmp os_lt (me_v 0) (me_glob (d := .int 256) (v := .int 256) rfl T.c_BYTE.choose_spec ⟨_, rfl⟩ fun _ _ => .int _) (nomark _))))))
theorem fm_are_bytes (T : Tx K mg) {f : Addr} {fd : FuncData} (F : Fun K "are_bytes" "are_bytes" s_are_bytes f fd) : FM P w K mg base 3 f fd ["value"] m_are_bytes := by
  obtain ⟨f_is_byte, fd_is_byte, g_is_byte, F_is_byte, b_is_byte⟩ := T.f_is_byte
  have C_is_byte := (fm_is_byte T F_is_byte : FM P w K mg base _ _ _ _ _)
  exact fm_of F sc_are_bytes fun cdv A outer s H E hc => (mss_one (ms_ret (me_and (me_callB ks_isi rfl T.n_isinstance (by decide +kernel) (ma_cons (me_v 0) (ma_cons (me_ty rfl T.n_tuple (by decide +kernel)) ma_nil))) (me_one (me_callB (ks_all hc.calm) rfl T.n_all (by decide +kernel) (ma_cons (me_lc (own := [("one", 1)]) hc.calm sc_are_bytes.nd (mi_seq (me_v 0)) (blkOk_by (N := N_are_bytes) (sc := defScope s_are_bytes) (by decide +kernel)) ⟨_, gs_name 1, fun _ _ _ _ _ => pg_name (i := 1) sc_are_bytes.nd rfl (Or.inl rfl)⟩ (fun _ _ _ _ _ => mts_nil) (fun _ _ _ _ _ => (me_call C_is_byte takes0 (hc.room.mono (by decide)) rfl g_is_byte b_is_byte (ma_cons (me_v 1) ma_nil)))) ma_nil))))))
theorem fm_cut_word (T : Tx K mg) {f : Addr} {fd : FuncData} (F : Fun K "cut_word" "cut_word" s_cut_word f fd) : FM P w K mg base 1 f fd ["value", "width"] m_cut_word := by
  exact fm_of F sc_cut_word fun cdv A outer s H E hc => (mss_one (ms_ret (me_op os_and (me_v 0) (me_op os_sub (me_op os_shl me_int (me_v 1)) me_int))))
theorem fm_bits_of (T : Tx K mg) {f : Addr} {fd : FuncData} (F : Fun K "bits_of" "bits_of" s_bits_of f fd) : FM P w K mg base 1 f fd ["word", "width"] m_bits_of := by
  exact fm_of F sc_bits_of fun cdv A outer s H E hc => (mss_one (ms_ret (me_callTy ks_tuple rfl T.n_tuple (by decide +kernel) (ma_cons (me_lc (own := [("k", 2)]) hc.calm sc_bits_of.nd (mi_r1 rfl T.n_range (ma_cons (me_v 1) ma_nil)) (blkOk_by (N := N_bits_of) (sc := defScope s_bits_of) (by decide +kernel)) ⟨_, gs_name 2, fun _ _ _ _ _ => pg_name (i := 2) sc_bits_of.nd rfl (Or.inl rfl)⟩ (fun _ _ _ _ _ => mts_nil) (fun _ _ _ _ _ => (me_op os_and (me_op os_shr (me_v 0) (me_v 2)) me_int))) ma_nil))))
theorem fm_word_of (T : Tx K mg) {f : Addr} {fd : FuncData} (F : Fun K "word_of" "word_of" s_word_of f fd) : FM P w K mg base 1 f fd ["bits"] m_word_of := by
  exact fm_of F sc_word_of fun cdv A outer s H E hc => (mss_cons (ms_set 1 sc_word_of.nd rfl (Or.inl rfl) me_int)
    (mss_cons (ms_for hc.po hc.calm (mi_r1 rfl T.n_range (ma_cons (me_callB ks_len rfl T.n_len (by decide +kernel) (ma_cons (me_v 0) ma_nil)) ma_nil)) (mg_name 2 sc_word_of.nd rfl (Or.inl rfl)) (mss_one (ms_aug 1 osi_add sc_word_of.nd rfl (Or.inl rfl) (me_op os_shl (me_ix (me_v 0) (me_v 2)) (me_v 2)))))
    (mss_one (ms_ret (me_v 1)))))
theorem fm_is_bits (T : Tx K mg) {f : Addr} {fd : FuncData} (F : Fun K "is_bits" "is_bits" s_is_bits f fd) : FM P w K mg base 3 f fd ["value", "size"] m_is_bits := by
  obtain ⟨f_is_word, fd_is_word, g_is_word, F_is_word, b_is_word⟩ := T.f_is_word
  have C_is_word := (fm_is_word T F_is_word : FM P w K mg base _ _ _ _ _)
  exact fm_of F sc_is_bits fun cdv A outer s H E hc => (mss_one (ms_ret (me_and (me_callB ks_isi rfl T.n_isinstance (by decide +kernel) (ma_cons (me_v 0) (ma_cons (me_ty rfl T.n_tuple (by decide +kernel)) ma_nil))) (me_and (me_cmp (os_eq hc.room.units) (me_callB ks_len rfl T.n_len (by decide +kernel) (ma_cons (me_v 0) ma_nil)) (me_v 1) (nomark _)) (me_one (me_callB (ks_all hc.calm) rfl T.n_all (by decide +kernel) (ma_cons (me_lc (own := [("one", 2)]) hc.calm sc_is_bits.nd (mi_seq (me_v 0)) (blkOk_by (N := N_is_bits) (sc := defScope s_is_bits) (by decide +kernel)) ⟨_, gs_name 2, fun _ _ _ _ _ => pg_name (i := 2) sc_is_bits.nd rfl (Or.inl rfl)⟩ (fun _ _ _ _ _ => mts_nil) (fun _ _ _ _ _ => (me_call C_is_word takes0 (hc.room.mono (by decide)) rfl g_is_word b_is_word (ma_cons (me_v 2) (ma_cons me_int ma_nil))))) ma_nil)))))))
theorem fm_one_count (T : Tx K mg) {f : Addr} {fd : FuncData} (F : Fun K "one_count" "one_count" s_one_count f fd) : FM P w K mg base 1 f fd ["word"] m_one_count := by
  exact fm_of F sc_one_count fun cdv A outer s H E hc => (mss_cons (ms_set 1 sc_one_count.nd rfl (Or.inl rfl) me_int)
    (mss_cons (ms_while hc.po (mt_cmp os_gt (me_v 0) me_int (nomark _)) (mss_one (ms_par hc.calm sc_one_count.nd rfl rfl (by decide) rfl rfl (ma_cons (me_op os_add (me_v 1) (me_op os_and (me_v 0) me_int)) (ma_cons (me_op os_shr (me_v 0) me_int) ma_nil)) (by rfl))))
    (mss_one (ms_ret (me_v 1)))))
theorem fm_number_width (T : Tx K mg) {f : Addr} {fd : FuncData} (F : Fun K "number_width" "number_width" s_number_width f fd) : FM P w K mg base 1 f fd ["number"] m_number_width := by
  exact fm_of F sc_number_width fun cdv A outer s H E hc => (mss_cons (ms_set 1 sc_number_width.nd rfl (Or.inl rfl) me_int)
    (mss_cons (ms_while hc.po (mt_cmp os_gt (me_op os_shr (me_v 0) (me_v 1)) me_int (nomark _)) (mss_one (ms_aug 1 osi_add sc_number_width.nd rfl (Or.inl rfl) me_int)))
    (mss_one (ms_ret (me_v 1)))))
theorem fm__law_next (T : Tx K mg) {f : Addr} {fd : FuncData} (F : Fun K "_law_next" "_law_next" s__law_next f fd) : FM P w K mg base 1 f fd ["tape", "many"] m__law_next := by
  exact fm_of F sc__law_next fun cdv A outer s H E hc => (mss_cons (ms_set 2 sc__law_next.nd rfl (Or.inl rfl) (me_ix (me_v 0) me_int))
    (mss_cons (ms_if (mt_cmp (os_eq hc.room.units) (me_v 2) me_int (nomark _)) (mss_cons (ms_set 3 sc__law_next.nd rfl (Or.inl rfl) me_int)
    (mss_cons (ms_if (mt_cmp os_lt (me_ix (me_v 0) me_int) (me_callB ks_len rfl T.n_len (by decide +kernel) (ma_cons (me_ix (me_v 0) me_int) ma_nil)) (nomark _)) (mss_cons (ms_set 3 sc__law_next.nd rfl (Or.inl rfl) (me_callB ks_abs rfl T.n_abs (by decide +kernel) (ma_cons (me_callTy ks_int rfl T.n_int (by decide +kernel) (ma_cons (me_ix (me_ix (me_v 0) me_int) (me_ix (me_v 0) me_int)) ma_nil)) ma_nil)))
    (mss_one (ms_setI (me_op os_add (me_ix (me_v 0) me_int) me_int) (me_v 0) me_int))) mss_nil)
    (mss_cons (ms_set 2 sc__law_next.nd rfl (Or.inl rfl) (me_v 3))
    (mss_one (ms_if (mt_cmp os_lt (me_v 3) (me_op os_pow me_int me_int) (nomark _)) (mss_cons (ms_setI (me_op os_mod (me_callTy ks_int rfl T.n_int (by decide +kernel) (ma_cons (me_op os_add (me_op os_add (me_op os_mul (me_ix (me_v 0) me_int) me_int) (me_op os_mul (me_v 3) me_int)) me_int) ma_nil)) me_int) (me_v 0) me_int)
    (mss_one (ms_ret (me_op os_mod (me_op os_mod (me_callTy ks_int rfl T.n_int (by decide +kernel) (ma_cons (me_op os_mul (me_callTy ks_int rfl T.n_int (by decide +kernel) (ma_cons (me_op os_fdiv (me_ix (me_v 0) me_int) me_int) ma_nil)) me_int) ma_nil)) me_int) (me_v 1))))) mss_nil))))) mss_nil)
    (mss_cons (ms_setI (me_op os_fdiv (me_v 2) (me_v 1)) (me_v 0) me_int)
    (mss_one (ms_ret (me_op os_mod (me_callTy ks_int rfl T.n_int (by decide +kernel) (ma_cons (me_v 2) ma_nil)) (me_v 1)))))))
theorem fm__law_same (T : Tx K mg) (k : Nat) : ∀ {f : Addr} {fd : FuncData} (F : Fun K "_law_same" "_law_same" s__law_same f fd), FM P w K mg base (0 + k) f fd ["told", "due"] (m__law_same k) := by
  induction k with
  | zero => exact fun F => fm_bad F
  | succ k ih =>
    intro f fd F
    obtain ⟨f__law_same, fd__law_same, g__law_same, F__law_same, b__law_same⟩ := T.f__law_same
    have C__law_same := ih F__law_same
    exact fm_of F sc__law_same fun cdv A outer s H E hc => (mss_cons (ms_if (mt_cmp os_isN (me_v 1) me_non (nomark _)) (mss_one (ms_ret (me_cmp os_isN (me_v 0) me_non (nomark _)))) mss_nil)
    (mss_cons (ms_if (mt_e (me_callB ks_isi rfl T.n_isinstance (by decide +kernel) (ma_cons (me_v 1) (ma_cons (me_ty rfl T.n_bool (by decide +kernel)) ma_nil)))) (mss_one (ms_ret (me_and (me_callB ks_isi rfl T.n_isinstance (by decide +kernel) (ma_cons (me_v 0) (ma_cons (me_ty rfl T.n_bool (by decide +kernel)) ma_nil))) (me_one (me_cmp (os_eq hc.room.units) (me_v 0) (me_v 1) (nomark _)))))) mss_nil)
    (mss_cons (ms_if (mt_e (me_callB ks_isi rfl T.n_isinstance (by decide +kernel) (ma_cons (me_v 1) (ma_cons (me_ty rfl T.n_int (by decide +kernel)) ma_nil)))) (mss_one (ms_ret (me_and (me_callB ks_isi rfl T.n_isinstance (by decide +kernel) (ma_cons (me_v 0) (ma_cons (me_ty rfl T.n_int (by decide +kernel)) ma_nil))) (me_and (me_not (me_callB ks_isi rfl T.n_isinstance (by decide +kernel) (ma_cons (me_v 0) (ma_cons (me_ty rfl T.n_bool (by decide +kernel)) ma_nil)))) (me_one (me_cmp (os_eq hc.room.units) (me_v 0) (me_v 1) (nomark _))))))) mss_nil)
    (mss_cons (ms_if (mt_e (me_callB ks_isi rfl T.n_isinstance (by decide +kernel) (ma_cons (me_v 1) (ma_cons (me_ty rfl T.n_str (by decide +kernel)) ma_nil)))) (mss_one (ms_ret (me_and (me_callB ks_isi rfl T.n_isinstance (by decide +kernel) (ma_cons (me_v 0) (ma_cons (me_ty rfl T.n_str (by decide +kernel)) ma_nil))) (me_one (me_cmp (os_eq hc.room.units) (me_v 0) (me_v 1) (nomark _)))))) mss_nil)
    (mss_cons (ms_if (MW.mt (mw_or (MW.mt (mw_and (mt_e (me_callB ks_isi rfl T.n_isinstance (by decide +kernel) (ma_cons (me_v 1) (ma_cons (me_ty rfl T.n_list (by decide +kernel)) ma_nil)))) (mw_and1 (mt_not (mt_e (me_callB ks_isi rfl T.n_isinstance (by decide +kernel) (ma_cons (me_v 0) (ma_cons (me_ty rfl T.n_list (by decide +kernel)) ma_nil)))))))) (mw_or1 (MW.mt (mw_and (mt_e (me_callB ks_isi rfl T.n_isinstance (by decide +kernel) (ma_cons (me_v 1) (ma_cons (me_ty rfl T.n_tuple (by decide +kernel)) ma_nil)))) (mw_and1 (mt_not (mt_e (me_callB ks_isi rfl T.n_isinstance (by decide +kernel) (ma_cons (me_v 0) (ma_cons (me_ty rfl T.n_tuple (by decide +kernel)) ma_nil))))))))))) (mss_one (ms_ret me_bl)) mss_nil)
    (mss_one (ms_ret (me_and (me_cmp (os_eq hc.room.units) (me_callB ks_len rfl T.n_len (by decide +kernel) (ma_cons (me_v 0) ma_nil)) (me_callB ks_len rfl T.n_len (by decide +kernel) (ma_cons (me_v 1) ma_nil)) (nomark _)) (me_one (me_cmp (os_eq hc.room.units) (me_lc (own := [("k", 2)]) hc.calm sc__law_same.nd (mi_r1 rfl T.n_range (ma_cons (me_callB ks_len rfl T.n_len (by decide +kernel) (ma_cons (me_v 1) ma_nil)) ma_nil)) (blkOk_by (N := N__law_same) (sc := defScope s__law_same) (by decide +kernel)) ⟨_, gs_name 2, fun _ _ _ _ _ => pg_name (i := 2) sc__law_same.nd rfl (Or.inl rfl)⟩ (fun _ _ _ _ _ => (mts_one (mt_not (mt_e (me_call C__law_same takes0 (hc.room.mono (Nat.le_refl _)) rfl g__law_same b__law_same (ma_cons (me_ix (me_v 0) (me_v 2)) (ma_cons (me_ix (me_v 1) (me_v 2)) ma_nil))))))) (fun _ _ _ _ _ => me_int)) (me_lst ma_nil) (nomark _)))))))))))
theorem fm_law (T : Tx K mg) {f : Addr} {fd : FuncData} (F : Fun K "law" "law" s_law f fd) : FM P w K mg base 21 f fd ["script"] m_law := by
  obtain ⟨f__law_next, fd__law_next, g__law_next, F__law_next, b__law_next⟩ := T.f__law_next
  have C__law_next := (fm__law_next T F__law_next : FM P w K mg base _ _ _ _ _)
  obtain ⟨f__law_same, fd__law_same, g__law_same, F__law_same, b__law_same⟩ := T.f__law_same
  have C__law_same := (fm__law_same T 20 F__law_same : FM P w K mg base _ _ _ _ _)
  obtain ⟨f_bits_of, fd_bits_of, g_bits_of, F_bits_of, b_bits_of⟩ := T.f_bits_of
  have C_bits_of := (fm_bits_of T F_bits_of : FM P w K mg base _ _ _ _ _)
  obtain ⟨f_word_of, fd_word_of, g_word_of, F_word_of, b_word_of⟩ := T.f_word_of
  have C_word_of := (fm_word_of T F_word_of : FM P w K mg base _ _ _ _ _)
  obtain ⟨f_cut_word, fd_cut_word, g_cut_word, F_cut_word, b_cut_word⟩ := T.f_cut_word
  have C_cut_word := (fm_cut_word T F_cut_word : FM P w K mg base _ _ _ _ _)
  obtain ⟨f_one_count, fd_one_count, g_one_count, F_one_count, b_one_count⟩ := T.f_one_count
  have C_one_count := (fm_one_count T F_one_count : FM P w K mg base _ _ _ _ _)
  obtain ⟨f_number_width, fd_number_width, g_number_width, F_number_width, b_number_width⟩ := T.f_number_width
  have C_number_width := (fm_number_width T F_number_width : FM P w K mg base _ _ _ _ _)
  obtain ⟨f_is_word, fd_is_word, g_is_word, F_is_word, b_is_word⟩ := T.f_is_word
  have C_is_word := (fm_is_word T F_is_word : FM P w K mg base _ _ _ _ _)
  obtain ⟨f_are_words, fd_are_words, g_are_words, F_are_words, b_are_words⟩ := T.f_are_words
  have C_are_words := (fm_are_words T F_are_words : FM P w K mg base _ _ _ _ _)
  obtain ⟨f_is_bits, fd_is_bits, g_is_bits, F_is_bits, b_is_bits⟩ := T.f_is_bits
  have C_is_bits := (fm_is_bits T F_is_bits : FM P w K mg base _ _ _ _ _)
  obtain ⟨f_is_count, fd_is_count, g_is_count, F_is_count, b_is_count⟩ := T.f_is_count
  have C_is_count := (fm_is_count T F_is_count : FM P w K mg base _ _ _ _ _)
  obtain ⟨f_is_width, fd_is_width, g_is_width, F_is_width, b_is_width⟩ := T.f_is_width
  have C_is_width := (fm_is_width T F_is_width : FM P w K mg base _ _ _ _ _)
  obtain ⟨f_is_byte, fd_is_byte, g_is_byte, F_is_byte, b_is_byte⟩ := T.f_is_byte
  have C_is_byte := (fm_is_byte T F_is_byte : FM P w K mg base _ _ _ _ _)
  obtain ⟨f_are_bytes, fd_are_bytes, g_are_bytes, F_are_bytes, b_are_bytes⟩ := T.f_are_bytes
  have C_are_bytes := (fm_are_bytes T F_are_bytes : FM P w K mg base _ _ _ _ _)
  exact fm_of F sc_law fun cdv A outer s H E hc => (mss_cons (ms_set 1 sc_law.nd rfl (Or.inr rfl) (me_new 0 (ma_cons (me_callTy ks_list rfl T.n_list (by decide +kernel) (ma_cons (me_v 0) ma_nil)) (ma_cons me_int (ma_cons me_int (ma_cons me_int ma_nil))))))
    (mss_cons (ms_set 2 sc_law.nd rfl (Or.inr rfl) (me_op os_add me_int (me_call C__law_next hc.tk (hc.room.mono (by decide)) rfl g__law_next b__law_next (ma_cons (me_v 1) (ma_cons me_int ma_nil)))))
    (mss_cons (ms_asg (me_tup (ma_cons (me_call C__law_next hc.tk (hc.room.mono (by decide)) rfl g__law_next b__law_next (ma_cons (me_v 1) (ma_cons (me_op os_shl me_int (me_v 2)) ma_nil))) (ma_cons (me_op os_sub (me_call C__law_next hc.tk (hc.room.mono (by decide)) rfl g__law_next b__law_next (ma_cons (me_v 1) (ma_cons (me_op os_shl me_int me_int) ma_nil))) (me_op os_shl me_int me_int)) ma_nil))) (mg_tup hc.calm (mgs_cons (mg_name 3 sc_law.nd rfl (Or.inr rfl)) (mgs_cons (mg_name 4 sc_law.nd rfl (Or.inl rfl)) mgs_nil))))
    (mss_cons (ms_set 5 sc_law.nd rfl (Or.inl rfl) (me_callTy ks_tuple rfl T.n_tuple (by decide +kernel) (ma_cons (me_lc (own := [("k", 14)]) hc.calm sc_law.nd (mi_r1 rfl T.n_range (ma_cons (me_v 2) ma_nil)) (blkOk_by (N := N_law) (sc := defScope s_law) (by decide +kernel)) ⟨_, gs_name 14, fun _ _ _ _ _ => pg_name (i := 14) sc_law.nd rfl (Or.inl rfl)⟩ (fun _ _ _ _ _ => mts_nil) (fun _ _ _ _ _ => (me_op os_and (me_op os_fdiv (me_v 3) (me_op os_shl me_int (me_v 14))) me_int))) ma_nil)))
    (mss_cons (ms_set 6 sc_law.nd rfl (Or.inr rfl) (me_call C__law_next hc.tk (hc.room.mono (by decide)) rfl g__law_next b__law_next (ma_cons (me_v 1) (ma_cons (me_op os_shl me_int me_int) ma_nil))))
    (mss_cons (ms_set 7 sc_law.nd rfl (Or.inl rfl) (me_callB ks_len rfl T.n_len (by decide +kernel) (ma_cons (me_lc (own := [("k", 14)]) hc.calm sc_law.nd (mi_r2 rfl T.n_range (ma_cons me_int (ma_cons me_int ma_nil))) (blkOk_by (N := N_law) (sc := defScope s_law) (by decide +kernel)) ⟨_, gs_name 14, fun _ _ _ _ _ => pg_name (i := 14) sc_law.nd rfl (Or.inl rfl)⟩ (fun _ _ _ _ _ => (mts_one (mt_cmp os_ge (me_v 6) (me_op os_shl me_int (me_v 14)) (nomark _)))) (fun _ _ _ _ _ => (me_v 14))) ma_nil)))
    (mss_cons (ms_set 8 sc_law.nd rfl (Or.inl rfl) (me_lst (ma_cons (me_call C_bits_of hc.tk (hc.room.mono (by decide)) rfl g_bits_of b_bits_of (ma_cons (me_v 3) (ma_cons (me_v 2) ma_nil))) (ma_cons (me_call C_word_of hc.tk (hc.room.mono (by decide)) rfl g_word_of b_word_of (ma_cons (me_v 5) ma_nil)) (ma_cons (me_call C_cut_word hc.tk (hc.room.mono (by decide)) rfl g_cut_word b_cut_word (ma_cons (me_v 4) (ma_cons (me_v 2) ma_nil))) (ma_cons (me_call C_one_count hc.tk (hc.room.mono (by decide)) rfl g_one_count b_one_count (ma_cons (me_v 6) ma_nil)) (ma_cons (me_call C_number_width hc.tk (hc.room.mono (by decide)) rfl g_number_width b_number_width (ma_cons (me_v 6) ma_nil)) (ma_cons (me_glob (d := .int 16) (v := .int 16) rfl T.c_WIDEST.choose_spec ⟨_, rfl⟩ fun _ _ => .int _) ma_nil))))))))
    (mss_cons (ms_if (mt_not (mt_e (me_call C__law_same hc.tk (hc.room.mono (by decide)) rfl g__law_same b__law_same (ma_cons (me_v 8) (ma_cons (me_lst (ma_cons (me_v 5) (ma_cons (me_v 3) (ma_cons (me_op os_mod (me_callTy ks_int rfl T.n_int (by decide +kernel) (ma_cons (me_v 4) ma_nil)) (me_op os_shl me_int (me_v 2))) (ma_cons (me_callB (ks_sum hc.calm) rfl T.n_sum (by decide +kernel) (ma_cons (me_lc (own := [("k", 14)]) hc.calm sc_law.nd (mi_r1 rfl T.n_range (ma_cons me_int ma_nil)) (blkOk_by (N := N_law) (sc := defScope s_law) (by decide +kernel)) ⟨_, gs_name 14, fun _ _ _ _ _ => pg_name (i := 14) sc_law.nd rfl (Or.inl rfl)⟩ (fun _ _ _ _ _ => mts_nil) (fun _ _ _ _ _ => (me_op os_and (me_op os_shr (me_v 6) (me_v 14)) me_int))) ma_nil)) (ma_cons (me_op os_add me_int (me_v 7)) (ma_cons me_int ma_nil))))))) ma_nil))))) (mss_one (ms_ret me_bl)) mss_nil)
    (mss_cons (ms_set 9 sc_law.nd rfl (Or.inl rfl) (me_lst (ma_cons me_int (ma_cons me_int (ma_cons me_int (ma_cons me_int (ma_cons (me_un us_neg me_int) (ma_cons me_bl (ma_cons me_non (ma_cons me_str (ma_cons (me_tup (ma_cons me_int ma_nil)) ma_nil)))))))))))
    (mss_cons (ms_if (mt_not (mt_e (me_call C__law_same hc.tk (hc.room.mono (by decide)) rfl g__law_same b__law_same (ma_cons (me_lst (ma_cons (me_lc (own := [("one", 13)]) hc.calm sc_law.nd (mi_seq (me_v 9)) (blkOk_by (N := N_law) (sc := defScope s_law) (by decide +kernel)) ⟨_, gs_name 13, fun _ _ _ _ _ => pg_name (i := 13) sc_law.nd rfl (Or.inl rfl)⟩ (fun _ _ _ _ _ => mts_nil) (fun _ _ _ _ _ => (me_call C_is_count takes0 (hc.room.mono (by decide)) rfl g_is_count b_is_count (ma_cons (me_v 13) ma_nil)))) (ma_cons (me_lc (own := [("one", 13)]) hc.calm sc_law.nd (mi_seq (me_v 9)) (blkOk_by (N := N_law) (sc := defScope s_law) (by decide +kernel)) ⟨_, gs_name 13, fun _ _ _ _ _ => pg_name (i := 13) sc_law.nd rfl (Or.inl rfl)⟩ (fun _ _ _ _ _ => mts_nil) (fun _ _ _ _ _ => (me_call C_is_width takes0 (hc.room.mono (by decide)) rfl g_is_width b_is_width (ma_cons (me_v 13) ma_nil)))) ma_nil))) (ma_cons (me_lst (ma_cons (me_op os_add (me_op os_mul (me_lst (ma_cons me_bl ma_nil)) me_int) (me_op os_mul (me_lst (ma_cons me_bl ma_nil)) me_int)) (ma_cons (me_op os_add (me_lst (ma_cons me_bl (ma_cons me_bl (ma_cons me_bl ma_nil)))) (me_op os_mul (me_lst (ma_cons me_bl ma_nil)) me_int)) ma_nil))) ma_nil))))) (mss_one (ms_ret me_bl)) mss_nil)
    (mss_cons (ms_setLc (own := [("one", 13)]) 8 hc.calm sc_law.nd rfl rfl (sw_true rfl rfl rfl (by decide +kernel)) (mi_seq (me_tup (ma_cons (me_v 3) (ma_cons (me_op os_sub (me_op os_shl me_int (me_v 2)) me_int) (ma_cons (me_op os_shl me_int (me_v 2)) (ma_cons (me_un us_neg me_int) (ma_cons me_bl (ma_cons me_non (ma_cons me_str ma_nil))))))))) (blkOk_by (N := N_law) (sc := defScope s_law) (by decide +kernel)) ⟨_, gs_name 13, fun _ _ _ _ _ => pg_name (i := 13) sc_law.nd rfl (Or.inl rfl)⟩ (fun _ _ _ _ _ => mts_nil) (fun _ _ _ _ _ => (me_call C_is_word takes0 (hc.room.mono (by decide)) rfl g_is_word b_is_word (ma_cons (me_v 13) (ma_cons (me_v 2) ma_nil)))))
    (mss_cons (ms_if (mt_not (mt_e (me_call C__law_same hc.tk (hc.room.mono (by decide)) rfl g__law_same b__law_same (ma_cons (me_v 8) (ma_cons (me_op os_add (me_lst (ma_cons me_bl (ma_cons me_bl ma_nil))) (me_op os_mul (me_lst (ma_cons me_bl ma_nil)) me_int)) ma_nil))))) (mss_one (ms_ret me_bl)) mss_nil)
    (mss_cons (ms_set 10 sc_law.nd rfl (Or.inl rfl) (me_lst (ma_cons (me_v 5) (ma_cons (me_callTy ks_list rfl T.n_list (by decide +kernel) (ma_cons (me_v 5) ma_nil)) (ma_cons (me_op os_add (me_v 5) (me_tup (ma_cons me_int ma_nil))) (ma_cons (me_sl (me_v 5) (mo_some me_int) mo_none) (ma_cons me_non (ma_cons (me_op os_add (me_sl (me_v 5) mo_none (mo_some (me_un us_neg me_int))) (me_tup (ma_cons me_int ma_nil))) (ma_cons (me_op os_add (me_sl (me_v 5) mo_none (mo_some (me_un us_neg me_int))) (me_tup (ma_cons me_bl ma_nil))) (ma_cons (me_op os_add (me_sl (me_v 5) mo_none (mo_some (me_un us_neg me_int))) (me_tup (ma_cons (me_un us_neg me_int) ma_nil))) ma_nil))))))))))
    (mss_cons (ms_if (mt_not (mt_e (me_call C__law_same hc.tk (hc.room.mono (by decide)) rfl g__law_same b__law_same (ma_cons (me_lc (own := [("one", 13)]) hc.calm sc_law.nd (mi_seq (me_v 10)) (blkOk_by (N := N_law) (sc := defScope s_law) (by decide +kernel)) ⟨_, gs_name 13, fun _ _ _ _ _ => pg_name (i := 13) sc_law.nd rfl (Or.inl rfl)⟩ (fun _ _ _ _ _ => mts_nil) (fun _ _ _ _ _ => (me_call C_is_bits takes0 (hc.room.mono (by decide)) rfl g_is_bits b_is_bits (ma_cons (me_v 13) (ma_cons (me_v 2) ma_nil))))) (ma_cons (me_op os_add (me_lst (ma_cons me_bl ma_nil)) (me_op os_mul (me_lst (ma_cons me_bl ma_nil)) me_int)) ma_nil))))) (mss_one (ms_ret me_bl)) mss_nil)
    (mss_cons (ms_set 9 sc_law.nd rfl (Or.inl rfl) (me_lst (ma_cons me_int (ma_cons me_int (ma_cons me_int (ma_cons (me_un us_neg me_int) (ma_cons me_bl (ma_cons me_non (ma_cons me_str ma_nil)))))))))
    (mss_cons (ms_set 11 sc_law.nd rfl (Or.inl rfl) (me_lst (ma_cons (me_tup ma_nil) (ma_cons (me_tup (ma_cons me_int (ma_cons me_int ma_nil))) (ma_cons (me_tup (ma_cons me_int ma_nil)) (ma_cons (me_lst (ma_cons me_int ma_nil)) (ma_cons (me_tup (ma_cons me_bl ma_nil)) (ma_cons me_non ma_nil))))))))
    (mss_cons (ms_if (mt_not (mt_e (me_call C__law_same hc.tk (hc.room.mono (by decide)) rfl g__law_same b__law_same (ma_cons (me_lst (ma_cons (me_lc (own := [("one", 13)]) hc.calm sc_law.nd (mi_seq (me_v 9)) (blkOk_by (N := N_law) (sc := defScope s_law) (by decide +kernel)) ⟨_, gs_name 13, fun _ _ _ _ _ => pg_name (i := 13) sc_law.nd rfl (Or.inl rfl)⟩ (fun _ _ _ _ _ => mts_nil) (fun _ _ _ _ _ => (me_call C_is_byte takes0 (hc.room.mono (by decide)) rfl g_is_byte b_is_byte (ma_cons (me_v 13) ma_nil)))) (ma_cons (me_lc (own := [("one", 13)]) hc.calm sc_law.nd (mi_seq (me_v 11)) (blkOk_by (N := N_law) (sc := defScope s_law) (by decide +kernel)) ⟨_, gs_name 13, fun _ _ _ _ _ => pg_name (i := 13) sc_law.nd rfl (Or.inl rfl)⟩ (fun _ _ _ _ _ => mts_nil) (fun _ _ _ _ _ => (me_call C_are_bytes takes0 (hc.room.mono (by decide)) rfl g_are_bytes b_are_bytes (ma_cons (me_v 13) ma_nil)))) (ma_cons (me_glob (d := .int 256) (v := .int 256) rfl T.c_BYTE.choose_spec ⟨_, rfl⟩ fun _ _ => .int _) ma_nil)))) (ma_cons (me_lst (ma_cons (me_op os_add (me_lst (ma_cons me_bl (ma_cons me_bl ma_nil))) (me_op os_mul (me_lst (ma_cons me_bl ma_nil)) me_int)) (ma_cons (me_op os_add (me_lst (ma_cons me_bl (ma_cons me_bl ma_nil))) (me_op os_mul (me_lst (ma_cons me_bl ma_nil)) me_int)) (ma_cons me_int ma_nil)))) ma_nil))))) (mss_one (ms_ret me_bl)) mss_nil)
    (mss_cons (ms_set 12 sc_law.nd rfl (Or.inl rfl) (me_callTy ks_tuple rfl T.n_tuple (by decide +kernel) (ma_cons (me_lc (own := [("k", 14)]) hc.calm sc_law.nd (mi_r1 rfl T.n_range (ma_cons (me_call C__law_next hc.tk (hc.room.mono (by decide)) rfl g__law_next b__law_next (ma_cons (me_v 1) (ma_cons me_int ma_nil))) ma_nil)) (blkOk_by (N := N_law) (sc := defScope s_law) (by decide +kernel)) ⟨_, gs_name 14, fun _ _ _ _ _ => pg_name (i := 14) sc_law.nd rfl (Or.inl rfl)⟩ (fun _ _ _ _ _ => mts_nil) (fun _ _ _ _ _ => (me_call C__law_next takes0 (hc.room.mono (by decide)) rfl g__law_next b__law_next (ma_cons (me_v 1) (ma_cons (me_op os_shl me_int (me_v 2)) ma_nil))))) ma_nil)))
    (mss_cons (ms_set 10 sc_law.nd rfl (Or.inl rfl) (me_lst (ma_cons (me_v 12) (ma_cons (me_callTy ks_list rfl T.n_list (by decide +kernel) (ma_cons (me_v 12) ma_nil)) (ma_cons (me_op os_add (me_v 12) (me_tup (ma_cons (me_op os_shl me_int (me_v 2)) ma_nil))) (ma_cons (me_op os_add (me_v 12) (me_tup (ma_cons me_bl ma_nil))) (ma_cons (me_op os_add (me_v 12) (me_tup (ma_cons (me_un us_neg me_int) ma_nil))) (ma_cons me_non (ma_cons (me_tup ma_nil) ma_nil)))))))))
    (mss_one (ms_ret (me_call C__law_same hc.tk (hc.room.mono (by decide)) rfl g__law_same b__law_same (ma_cons (me_lc (own := [("one", 13)]) hc.calm sc_law.nd (mi_seq (me_v 10)) (blkOk_by (N := N_law) (sc := defScope s_law) (by decide +kernel)) ⟨_, gs_name 13, fun _ _ _ _ _ => pg_name (i := 13) sc_law.nd rfl (Or.inl rfl)⟩ (fun _ _ _ _ _ => mts_nil) (fun _ _ _ _ _ => (me_call C_are_words takes0 (hc.room.mono (by decide)) rfl g_are_words b_are_words (ma_cons (me_v 13) (ma_cons (me_v 2) ma_nil))))) (ma_cons (me_op os_add (me_op os_add (me_lst (ma_cons me_bl ma_nil)) (me_op os_mul (me_lst (ma_cons me_bl ma_nil)) me_int)) (me_lst (ma_cons me_bl ma_nil))) ma_nil))))))))))))))))))))))))
end
end K01

namespace K01
open MP PySem PySem.Spec PyProof.Rows L2
theorem all_mk {l : PySem.W.OpenLaw} {w : World} {K : PySem.W.Frag} {h : Heap} {mg : Str → Option Value} {fa : Addr} (X : K.In h) (G : h.Ns mainGlobals mg) (hfa : mg "law" = some (.ref fa))
    {f0 : Addr} {od0 an0 : Option Addr} {sl0 : Array (Option Value)} {oc0 kV0 dc0 pm0 cd0 ct0 : Value}
    {f1 : Addr} {od1 an1 : Option Addr} {sl1 : Array (Option Value)} {oc1 kV1 dc1 pm1 cd1 ct1 : Value}
    {f2 : Addr} {od2 an2 : Option Addr} {sl2 : Array (Option Value)} {oc2 kV2 dc2 pm2 cd2 ct2 : Value}
    {f3 : Addr} {od3 an3 : Option Addr} {sl3 : Array (Option Value)} {oc3 kV3 dc3 pm3 cd3 ct3 : Value}
    {f4 : Addr} {od4 an4 : Option Addr} {sl4 : Array (Option Value)} {oc4 kV4 dc4 pm4 cd4 ct4 : Value}
    {f5 : Addr} {od5 an5 : Option Addr} {sl5 : Array (Option Value)} {oc5 kV5 dc5 pm5 cd5 ct5 : Value}
    {f6 : Addr} {od6 an6 : Option Addr} {sl6 : Array (Option Value)} {oc6 kV6 dc6 pm6 cd6 ct6 : Value}
    {f7 : Addr} {od7 an7 : Option Addr} {sl7 : Array (Option Value)} {oc7 kV7 dc7 pm7 cd7 ct7 : Value}
    {f8 : Addr} {od8 an8 : Option Addr} {sl8 : Array (Option Value)} {oc8 kV8 dc8 pm8 cd8 ct8 : Value}
    {f9 : Addr} {od9 an9 : Option Addr} {sl9 : Array (Option Value)} {oc9 kV9 dc9 pm9 cd9 ct9 : Value}
    {f10 : Addr} {od10 an10 : Option Addr} {sl10 : Array (Option Value)} {oc10 kV10 dc10 pm10 cd10 ct10 : Value}
    {f11 : Addr} {od11 an11 : Option Addr} {sl11 : Array (Option Value)} {oc11 kV11 dc11 pm11 cd11 ct11 : Value}
    {f12 : Addr} {od12 an12 : Option Addr} {sl12 : Array (Option Value)} {oc12 kV12 dc12 pm12 cd12 ct12 : Value}
    {f13 : Addr} {od13 an13 : Option Addr} {sl13 : Array (Option Value)} {oc13 kV13 dc13 pm13 cd13 ct13 : Value}
    {f14 : Addr} {od14 an14 : Option Addr} {sl14 : Array (Option Value)} {oc14 kV14 dc14 pm14 cd14 ct14 : Value}
    {t0 : Tok}
    {t1 : Tok}
    (a0 : PySem.W.nsIn K mainGlobals "is_count" = some (some (.ref f0))) (l0 : K.lookup f0 = some ⟨oc0, od0, .func (PySem.W.fnOf "is_count" "is_count" (defArgs s_is_count) (defBody s_is_count) (defScope s_is_count) .none kV0 dc0 pm0 an0 cd0 ct0), sl0⟩) (c0 : PySem.W.codeIn K cd0 "is_count" = true) (k0 : PySem.W.keepIn K (.ref f0) = true)
    (a1 : PySem.W.nsIn K mainGlobals "is_width" = some (some (.ref f1))) (l1 : K.lookup f1 = some ⟨oc1, od1, .func (PySem.W.fnOf "is_width" "is_width" (defArgs s_is_width) (defBody s_is_width) (defScope s_is_width) .none kV1 dc1 pm1 an1 cd1 ct1), sl1⟩) (c1 : PySem.W.codeIn K cd1 "is_width" = true) (k1 : PySem.W.keepIn K (.ref f1) = true)
    (a2 : PySem.W.nsIn K mainGlobals "is_word" = some (some (.ref f2))) (l2 : K.lookup f2 = some ⟨oc2, od2, .func (PySem.W.fnOf "is_word" "is_word" (defArgs s_is_word) (defBody s_is_word) (defScope s_is_word) .none kV2 dc2 pm2 an2 cd2 ct2), sl2⟩) (c2 : PySem.W.codeIn K cd2 "is_word" = true) (k2 : PySem.W.keepIn K (.ref f2) = true)
    (a3 : PySem.W.nsIn K mainGlobals "are_words" = some (some (.ref f3))) (l3 : K.lookup f3 = some ⟨oc3, od3, .func (PySem.W.fnOf "are_words" "are_words" (defArgs s_are_words) (defBody s_are_words) (defScope s_are_words) .none kV3 dc3 pm3 an3 cd3 ct3), sl3⟩) (c3 : PySem.W.codeIn K cd3 "are_words" = true) (k3 : PySem.W.keepIn K (.ref f3) = true)
    (a4 : PySem.W.nsIn K mainGlobals "is_byte" = some (some (.ref f4))) (l4 : K.lookup f4 = some ⟨oc4, od4, .func (PySem.W.fnOf "is_byte" "is_byte" (defArgs s_is_byte) (defBody s_is_byte) (defScope s_is_byte) .none kV4 dc4 pm4 an4 cd4 ct4), sl4⟩) (c4 : PySem.W.codeIn K cd4 "is_byte" = true) (k4 : PySem.W.keepIn K (.ref f4) = true)
    (a5 : PySem.W.nsIn K mainGlobals "are_bytes" = some (some (.ref f5))) (l5 : K.lookup f5 = some ⟨oc5, od5, .func (PySem.W.fnOf "are_bytes" "are_bytes" (defArgs s_are_bytes) (defBody s_are_bytes) (defScope s_are_bytes) .none kV5 dc5 pm5 an5 cd5 ct5), sl5⟩) (c5 : PySem.W.codeIn K cd5 "are_bytes" = true) (k5 : PySem.W.keepIn K (.ref f5) = true)
    (a6 : PySem.W.nsIn K mainGlobals "cut_word" = some (some (.ref f6))) (l6 : K.lookup f6 = some ⟨oc6, od6, .func (PySem.W.fnOf "cut_word" "cut_word" (defArgs s_cut_word) (defBody s_cut_word) (defScope s_cut_word) .none kV6 dc6 pm6 an6 cd6 ct6), sl6⟩) (c6 : PySem.W.codeIn K cd6 "cut_word" = true) (k6 : PySem.W.keepIn K (.ref f6) = true)
    (a7 : PySem.W.nsIn K mainGlobals "bits_of" = some (some (.ref f7))) (l7 : K.lookup f7 = some ⟨oc7, od7, .func (PySem.W.fnOf "bits_of" "bits_of" (defArgs s_bits_of) (defBody s_bits_of) (defScope s_bits_of) .none kV7 dc7 pm7 an7 cd7 ct7), sl7⟩) (c7 : PySem.W.codeIn K cd7 "bits_of" = true) (k7 : PySem.W.keepIn K (.ref f7) = true)
    (a8 : PySem.W.nsIn K mainGlobals "word_of" = some (some (.ref f8))) (l8 : K.lookup f8 = some ⟨oc8, od8, .func (PySem.W.fnOf "word_of" "word_of" (defArgs s_word_of) (defBody s_word_of) (defScope s_word_of) .none kV8 dc8 pm8 an8 cd8 ct8), sl8⟩) (c8 : PySem.W.codeIn K cd8 "word_of" = true) (k8 : PySem.W.keepIn K (.ref f8) = true)
    (a9 : PySem.W.nsIn K mainGlobals "is_bits" = some (some (.ref f9))) (l9 : K.lookup f9 = some ⟨oc9, od9, .func (PySem.W.fnOf "is_bits" "is_bits" (defArgs s_is_bits) (defBody s_is_bits) (defScope s_is_bits) .none kV9 dc9 pm9 an9 cd9 ct9), sl9⟩) (c9 : PySem.W.codeIn K cd9 "is_bits" = true) (k9 : PySem.W.keepIn K (.ref f9) = true)
    (a10 : PySem.W.nsIn K mainGlobals "one_count" = some (some (.ref f10))) (l10 : K.lookup f10 = some ⟨oc10, od10, .func (PySem.W.fnOf "one_count" "one_count" (defArgs s_one_count) (defBody s_one_count) (defScope s_one_count) .none kV10 dc10 pm10 an10 cd10 ct10), sl10⟩) (c10 : PySem.W.codeIn K cd10 "one_count" = true) (k10 : PySem.W.keepIn K (.ref f10) = true)
    (a11 : PySem.W.nsIn K mainGlobals "number_width" = some (some (.ref f11))) (l11 : K.lookup f11 = some ⟨oc11, od11, .func (PySem.W.fnOf "number_width" "number_width" (defArgs s_number_width) (defBody s_number_width) (defScope s_number_width) .none kV11 dc11 pm11 an11 cd11 ct11), sl11⟩) (c11 : PySem.W.codeIn K cd11 "number_width" = true) (k11 : PySem.W.keepIn K (.ref f11) = true)
    (a12 : PySem.W.nsIn K mainGlobals "_law_next" = some (some (.ref f12))) (l12 : K.lookup f12 = some ⟨oc12, od12, .func (PySem.W.fnOf "_law_next" "_law_next" (defArgs s__law_next) (defBody s__law_next) (defScope s__law_next) .none kV12 dc12 pm12 an12 cd12 ct12), sl12⟩) (c12 : PySem.W.codeIn K cd12 "_law_next" = true) (k12 : PySem.W.keepIn K (.ref f12) = true)
    (a13 : PySem.W.nsIn K mainGlobals "_law_same" = some (some (.ref f13))) (l13 : K.lookup f13 = some ⟨oc13, od13, .func (PySem.W.fnOf "_law_same" "_law_same" (defArgs s__law_same) (defBody s__law_same) (defScope s__law_same) .none kV13 dc13 pm13 an13 cd13 ct13), sl13⟩) (c13 : PySem.W.codeIn K cd13 "_law_same" = true) (k13 : PySem.W.keepIn K (.ref f13) = true)
    (a14 : PySem.W.nsIn K mainGlobals "law" = some (some (.ref f14))) (l14 : K.lookup f14 = some ⟨oc14, od14, .func (PySem.W.fnOf "law" "law" (defArgs s_law) (defBody s_law) (defScope s_law) .none kV14 dc14 pm14 an14 cd14 ct14), sl14⟩) (c14 : PySem.W.codeIn K cd14 "law" = true) (k14 : PySem.W.keepIn K (.ref f14) = true)
    (z0 : PySem.W.nsIn K mainGlobals "abs" = some none)
    (z1 : PySem.W.nsIn K mainGlobals "all" = some none)
    (z2 : PySem.W.nsIn K mainGlobals "bool" = some none)
    (z3 : PySem.W.nsIn K mainGlobals "int" = some none)
    (z4 : PySem.W.nsIn K mainGlobals "isinstance" = some none)
    (z5 : PySem.W.nsIn K mainGlobals "len" = some none)
    (z6 : PySem.W.nsIn K mainGlobals "list" = some none)
    (z7 : PySem.W.nsIn K mainGlobals "range" = some none)
    (z8 : PySem.W.nsIn K mainGlobals "str" = some none)
    (z9 : PySem.W.nsIn K mainGlobals "sum" = some none)
    (z10 : PySem.W.nsIn K mainGlobals "tuple" = some none)
    (y0 : PySem.W.nsIn K mainGlobals "BYTE" = some (some (.int 256 t0)))
    (y1 : PySem.W.nsIn K mainGlobals "WIDEST" = some (some (.int 16 t1))) :
    ∃ fd : FuncData, (∀ (s : Shared) (v : Value), BindsTo s fd ⟨[v], []⟩ [("script", v)]) ∧ ∀ base : Heap, K.In base → base.Ns mainGlobals mg → FnOk l.prog w K mg base (L2.CX l.prog w) 21 fa fd ["script"] (spM K mg 1 m_law) := by
  have e := hfa.symm.trans (PySem.W.mg_of X G a14)
  cases e
  have T : Tx K mg := ⟨PySem.W.mg_none_of X G z0,
    PySem.W.mg_none_of X G z1,
    PySem.W.mg_none_of X G z2,
    PySem.W.mg_none_of X G z3,
    PySem.W.mg_none_of X G z4,
    PySem.W.mg_none_of X G z5,
    PySem.W.mg_none_of X G z6,
    PySem.W.mg_none_of X G z7,
    PySem.W.mg_none_of X G z8,
    PySem.W.mg_none_of X G z9,
    PySem.W.mg_none_of X G z10,
    ⟨t0, PySem.W.mg_of X G y0⟩,
    ⟨t1, PySem.W.mg_of X G y1⟩,
    ⟨f0, _, PySem.W.mg_of X G a0, fun_mk (st := s_is_count) l0 c0 k0, (fun_mk (st := s_is_count) l0 c0 k0).binds (ps := ["value"]) fun _ _ _ _ _ _ us hl => match us, hl with | [_], _ => rfl⟩,
    ⟨f1, _, PySem.W.mg_of X G a1, fun_mk (st := s_is_width) l1 c1 k1, (fun_mk (st := s_is_width) l1 c1 k1).binds (ps := ["value"]) fun _ _ _ _ _ _ us hl => match us, hl with | [_], _ => rfl⟩,
    ⟨f2, _, PySem.W.mg_of X G a2, fun_mk (st := s_is_word) l2 c2 k2, (fun_mk (st := s_is_word) l2 c2 k2).binds (ps := ["value", "width"]) fun _ _ _ _ _ _ us hl => match us, hl with | [_, _], _ => rfl⟩,
    ⟨f3, _, PySem.W.mg_of X G a3, fun_mk (st := s_are_words) l3 c3 k3, (fun_mk (st := s_are_words) l3 c3 k3).binds (ps := ["value", "width"]) fun _ _ _ _ _ _ us hl => match us, hl with | [_, _], _ => rfl⟩,
    ⟨f4, _, PySem.W.mg_of X G a4, fun_mk (st := s_is_byte) l4 c4 k4, (fun_mk (st := s_is_byte) l4 c4 k4).binds (ps := ["value"]) fun _ _ _ _ _ _ us hl => match us, hl with | [_], _ => rfl⟩,
    ⟨f5, _, PySem.W.mg_of X G a5, fun_mk (st := s_are_bytes) l5 c5 k5, (fun_mk (st := s_are_bytes) l5 c5 k5).binds (ps := ["value"]) fun _ _ _ _ _ _ us hl => match us, hl with | [_], _ => rfl⟩,
    ⟨f6, _, PySem.W.mg_of X G a6, fun_mk (st := s_cut_word) l6 c6 k6, (fun_mk (st := s_cut_word) l6 c6 k6).binds (ps := ["value", "width"]) fun _ _ _ _ _ _ us hl => match us, hl with | [_, _], _ => rfl⟩,
    ⟨f7, _, PySem.W.mg_of X G a7, fun_mk (st := s_bits_of) l7 c7 k7, (fun_mk (st := s_bits_of) l7 c7 k7).binds (ps := ["word", "width"]) fun _ _ _ _ _ _ us hl => match us, hl with | [_, _], _ => rfl⟩,
    ⟨f8, _, PySem.W.mg_of X G a8, fun_mk (st := s_word_of) l8 c8 k8, (fun_mk (st := s_word_of) l8 c8 k8).binds (ps := ["bits"]) fun _ _ _ _ _ _ us hl => match us, hl with | [_], _ => rfl⟩,
    ⟨f9, _, PySem.W.mg_of X G a9, fun_mk (st := s_is_bits) l9 c9 k9, (fun_mk (st := s_is_bits) l9 c9 k9).binds (ps := ["value", "size"]) fun _ _ _ _ _ _ us hl => match us, hl with | [_, _], _ => rfl⟩,
    ⟨f10, _, PySem.W.mg_of X G a10, fun_mk (st := s_one_count) l10 c10 k10, (fun_mk (st := s_one_count) l10 c10 k10).binds (ps := ["word"]) fun _ _ _ _ _ _ us hl => match us, hl with | [_], _ => rfl⟩,
    ⟨f11, _, PySem.W.mg_of X G a11, fun_mk (st := s_number_width) l11 c11 k11, (fun_mk (st := s_number_width) l11 c11 k11).binds (ps := ["number"]) fun _ _ _ _ _ _ us hl => match us, hl with | [_], _ => rfl⟩,
    ⟨f12, _, PySem.W.mg_of X G a12, fun_mk (st := s__law_next) l12 c12 k12, (fun_mk (st := s__law_next) l12 c12 k12).binds (ps := ["tape", "many"]) fun _ _ _ _ _ _ us hl => match us, hl with | [_, _], _ => rfl⟩,
    ⟨f13, _, PySem.W.mg_of X G a13, fun_mk (st := s__law_same) l13 c13 k13, (fun_mk (st := s__law_same) l13 c13 k13).binds (ps := ["told", "due"]) fun _ _ _ _ _ _ us hl => match us, hl with | [_, _], _ => rfl⟩⟩
  exact ⟨_, fun s v => .of_eq rfl, fun base _ _ => (fm_law T (fun_mk (st := s_law) l14 c14 k14)).ok⟩
end K01
open PySem PySem.W PyProof.Rows
set_option maxRecDepth 100000 in
set_option maxHeartbeats 0 in
theorem PySem.Challenge.cw_downtogates_k01_whole_words_and_bits_holds : PySem.Challenge.rw_downtogates_k01_whole_words_and_bits.Holds := by
  w_on; o_law; k_head; (case hw => w_witness2)
  k_fill
  refine MP.law_walk (l := PySem.Challenge.rw_downtogates_k01_whole_words_and_bits) (k := 21) (x := "script") (m := K01.m_law) rfl rfl ⟨rfl, by decide, by decide⟩ (fun w h Y => PySem.W.kIn_of Y) ?F (fun ns hl => K01.law_holds ns hl)
  case F =>
    intro w mg fa h KX G hmg
    refine' K01.all_mk KX G hmg ?a0 ?l0 ?c0 ?k0 ?a1 ?l1 ?c1 ?k1 ?a2 ?l2 ?c2 ?k2 ?a3 ?l3 ?c3 ?k3 ?a4 ?l4 ?c4 ?k4 ?a5 ?l5 ?c5 ?k5 ?a6 ?l6 ?c6 ?k6 ?a7 ?l7 ?c7 ?k7 ?a8 ?l8 ?c8 ?k8 ?a9 ?l9 ?c9 ?k9 ?a10 ?l10 ?c10 ?k10 ?a11 ?l11 ?c11 ?k11 ?a12 ?l12 ?c12 ?k12 ?a13 ?l13 ?c13 ?k13 ?a14 ?l14 ?c14 ?k14 ?z0 ?z1 ?z2 ?z3 ?z4 ?z5 ?z6 ?z7 ?z8 ?z9 ?z10 ?y0 ?y1
    (case a0 => k_is); (case l0 => k_is); (case c0 => k_is); (case k0 => k_is); (case a1 => k_is); (case l1 => k_is); (case c1 => k_is); (case k1 => k_is); (case a2 => k_is); (case l2 => k_is); (case c2 => k_is); (case k2 => k_is); (case a3 => k_is); (case l3 => k_is); (case c3 => k_is); (case k3 => k_is); (case a4 => k_is); (case l4 => k_is); (case c4 => k_is); (case k4 => k_is); (case a5 => k_is); (case l5 => k_is); (case c5 => k_is); (case k5 => k_is); (case a6 => k_is); (case l6 => k_is); (case c6 => k_is); (case k6 => k_is); (case a7 => k_is); (case l7 => k_is); (case c7 => k_is); (case k7 => k_is); (case a8 => k_is); (case l8 => k_is); (case c8 => k_is); (case k8 => k_is); (case a9 => k_is); (case l9 => k_is); (case c9 => k_is); (case k9 => k_is); (case a10 => k_is); (case l10 => k_is); (case c10 => k_is); (case k10 => k_is); (case a11 => k_is); (case l11 => k_is); (case c11 => k_is); (case k11 => k_is); (case a12 => k_is); (case l12 => k_is); (case c12 => k_is); (case k12 => k_is); (case a13 => k_is); (case l13 => k_is); (case c13 => k_is); (case k13 => k_is); (case a14 => k_is); (case l14 => k_is); (case c14 => k_is); (case k14 => k_is); (case z0 => k_is); (case z1 => k_is); (case z2 => k_is); (case z3 => k_is); (case z4 => k_is); (case z5 => k_is); (case z6 => k_is); (case z7 => k_is); (case z8 => k_is); (case z9 => k_is); (case z10 => k_is); (case y0 => k_is); (case y1 => k_is)
