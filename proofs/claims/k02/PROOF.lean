import PyProof.Rows.All
import Wide.All
import OpenK.AllK
import Wide.FinOn
import HandS.ForMost
import HandS.Exc
import HandS.WordsExc
import HandS.CallSlots
import HandS.TupAny
import HandS.TupMul
import HandS.IsInst
import HandS.Flow
import HandS.Wide
import HandS.ExcOwn
import HandS.Style
import HandS.ExcInit
import HandS.ExcSuper
import HandS.ExcField
import HandS.TryMany
import HandS.TryOnly
import KE.KSuper
import KE.KExcSuper
import HandS.ExcIs
import HandS.Dict
import HandS.WordsDict
import HandS.TupLen
import HandS.Text
import HandS.Deep
import HandS.More
import HandS.FStr
import HandS.Strs
import HandS.WrittenGet
import HandS.Iter
import HandS.Zip
import HandS.Rev
import PyProof.EqKinds
import PyProof.FactsAll.bool_1
import PyProof.FactsAll.bool_2
import HandS.SetBool
import HandS.Codes
import PySem.Challenge.RW_downtogates_k02_whole_values_as_texts
set_option Elab.async false
set_option linter.all false
set_option maxRecDepth 100000
set_option maxHeartbeats 8000000
/-! MP: pure meanings of Python expressions and statements, sound for the judgements of HandS. -/
namespace MP
open PySem PySem.Spec PyProof.Rows L2

/-! ### values, stores -/
/-- what a thing of parts is: a dict of ints and texts, a dict of tuples, an instance; its keys or fields -/
inductive Bx where
  | dK (ks : List Key) | dT (ks : List (List Key)) | ins (c : Str) (fs : List Str)
deriving Inhabited, DecidableEq
/-- values as trees; a list that is never changed any more is a tree too; `ref` is a changeable object, at a level of the store -/
inductive D where
  | non | bl (b : Bool) | int (i : Int) | str (x : Str) | ty (n : String)
  | tup (xs : List D) | lst (xs : List D) | rol (xs : List D) | box (b : Bx) (xs : List D) | ref (l i : Nat)
deriving Inhabited

/-- changeable objects -/
inductive O where
  | lst (xs : List D)
  | box (b : Bx) (xs : List D)
  | dead

/-- where the changeable objects stand; what is private to a loop that fills a new list -/
structure Phi where
  r : List (List Addr)
  p : List Addr
abbrev Sto := List (List O)

section
variable {α : Type}
/-- levels are counted from the bottom, the top level stands first -/
def look : List (List α) → Nat → Nat → Option α
  | [], _, _ => none
  | r :: rs, l, i => if l = rs.length then r[i]? else look rs l i
def put : List (List α) → Nat → Nat → α → List (List α)
  | [], _, _, _ => []
  | r :: rs, l, i, o => if l = rs.length then r.set i o :: rs else r :: put rs l i o
theorem look_ge : ∀ {rs : List (List α)} {l i : Nat}, rs.length ≤ l → look rs l i = none
  | [], _, _, _ => rfl
  | r :: rs, l, i, h => by
    simp only [List.length_cons] at h
    rw [look, if_neg (by omega)]
    exact look_ge (by omega)
theorem look_lt {rs : List (List α)} {l i : Nat} {a : α} (h : look rs l i = some a) : l < rs.length := by
  apply Classical.byContradiction
  intro n
  rw [look_ge (by omega)] at h
  cases h
@[simp] theorem look_top (r : List α) (rs : List (List α)) (i : Nat) : look (r :: rs) rs.length i = r[i]? := by
  rw [look, if_pos rfl]
theorem look_low (r : List α) {rs : List (List α)} {l : Nat} (i : Nat) (h : l < rs.length) : look (r :: rs) l i = look rs l i := by
  rw [look, if_neg (by omega)]
theorem look_push (r : List α) {rs : List (List α)} {l i : Nat} {a : α} (h : look rs l i = some a) : look (r :: rs) l i = some a := by
  rw [look_low r i (look_lt h)]; exact h
theorem put_length : ∀ (rs : List (List α)) (l i : Nat) (o : α), (put rs l i o).length = rs.length
  | [], _, _, _ => rfl
  | r :: rs, l, i, o => by
    rw [put]
    split
    · rfl
    · simp only [List.length_cons, put_length rs l i o]
theorem look_put_same : ∀ {rs : List (List α)} {l i : Nat} {a : α} (o : α), look rs l i = some a → look (put rs l i o) l i = some o
  | [], _, _, _, _, h => by cases h
  | r :: rs, l, i, a, o, h => by
    rw [look] at h
    rw [put]
    split
    · rename_i e
      rw [if_pos e] at h
      rw [look, if_pos e]
      have := (List.getElem?_eq_some_iff.mp h).1
      simp [this]
    · rename_i e
      rw [if_neg e] at h
      rw [look, put_length, if_neg e]
      exact look_put_same o h
theorem look_put_ne : ∀ {rs : List (List α)} {l i l' i' : Nat} (o : α), ¬ (l' = l ∧ i' = i) → look (put rs l i o) l' i' = look rs l' i'
  | [], _, _, _, _, _, _ => rfl
  | r :: rs, l, i, l', i', o, h => by
    rw [put]
    split
    · rename_i e
      rw [look, look]
      split
      · rename_i e'
        rw [List.getElem?_set_ne]
        intro z
        exact h ⟨by omega, z.symm⟩
      · rfl
    · rename_i e
      rw [look, look, put_length]
      split
      · rfl
      · exact look_put_ne o h
theorem put_shape : ∀ (rs : List (List α)) (l i : Nat) (o : α), (put rs l i o).map List.length = rs.map List.length
  | [], _, _, _ => rfl
  | r :: rs, l, i, o => by
    rw [put]
    split
    · simp
    · simp only [List.map_cons, put_shape rs l i o]
theorem look_of_shape {β : Type} : ∀ {rs : List (List α)} {qs : List (List β)} {l i : Nat} {a : α}, rs.map List.length = qs.map List.length → look rs l i = some a → ∃ b, look qs l i = some b
  | [], _, _, _, _, _, h => by cases h
  | r :: rs, [], _, _, _, e, _ => by simp at e
  | r :: rs, q :: qs, l, i, a, e, h => by
    simp only [List.map_cons, List.cons.injEq] at e
    have e2 : rs.length = qs.length := by have := congrArg List.length e.2; simpa using this
    rw [look] at h ⊢
    rw [← e2]
    split
    · rename_i z
      rw [if_pos z] at h
      have h1 := (List.getElem?_eq_some_iff.mp h).1
      rw [e.1] at h1
      exact ⟨q[i], by simp [h1]⟩
    · rename_i z
      rw [if_neg z] at h
      exact look_of_shape e.2 h
end

mutual
/-- all references within lie at the level or below -/
def D.le (l : Nat) : D → Bool
  | .ref k _ => decide (k ≤ l)
  | .tup xs => D.les l xs
  | .lst xs => D.les l xs
  | .rol xs => D.les l xs
  | .box _ xs => D.les l xs
  | _ => true
def D.les (l : Nat) : List D → Bool
  | [] => true
  | x :: xs => D.le l x && D.les l xs
end
def O.le (l : Nat) : O → Bool
  | .lst xs => D.les l xs
  | .box _ xs => D.les l xs
  | .dead => true

/-! ### the relation between a tree and what stands in the heap -/
def Away (φ : Phi) (a : Addr) : Prop := (∀ l i, look φ.r l i ≠ some a) ∧ a ∉ φ.p
def FT (K : PySem.W.Frag) (φ : Phi) (H : Hp) (a : Addr) (vs : List V) : Prop := (Rd H a (.tup vs) ∧ Away φ a) ∨ SqT K (fun _ => none) a vs
def FR (K : PySem.W.Frag) (φ : Phi) (H : Hp) (a : Addr) (vs : List V) : Prop := (Rd H a (.lst vs) ∧ Away φ a) ∨ SqL K (fun _ => none) a vs
theorem sqT_none {K : PySem.W.Frag} {H : Hp} {a : Addr} {vs : List V} (h : SqT K (fun _ => none) a vs) : SqT K H a vs := by
  rcases h with (h | ⟨o, h⟩) | h
  · cases h
  · cases h
  · exact .inr h
theorem sqL_none {K : PySem.W.Frag} {H : Hp} {a : Addr} {vs : List V} (h : SqL K (fun _ => none) a vs) : SqL K H a vs := by
  rcases h with (h | ⟨o, h⟩) | h
  · cases h
  · cases h
  · exact .inr h
theorem FT.sq {K : PySem.W.Frag} {φ : Phi} {H : Hp} {a : Addr} {vs : List V} (h : FT K φ H a vs) : SqT K H a vs := by
  rcases h with ⟨h, _⟩ | h
  · exact .inl h
  · exact sqT_none h
theorem FR.sq {K : PySem.W.Frag} {φ : Phi} {H : Hp} {a : Addr} {vs : List V} (h : FR K φ H a vs) : SqL K H a vs := by
  rcases h with ⟨h, _⟩ | h
  · exact .inl h
  · exact sqL_none h

/-- a thing of parts at a -/
def Bx.at (K : PySem.W.Frag) (φ : Phi) (H : Hp) (a : Addr) (vs : List V) : Bx → Prop
  | .dK ks => ks.length = vs.length ∧ H a = some (.dK (ks.zip vs))
  | .dT ks => ks.length = vs.length ∧ H a = some (.dT (ks.zip vs))
  | .ins c fs => fs.length = vs.length ∧ ∃ C dx, H a = some (.ins C dx (fs.zip vs)) ∧ H dx = some (.own a) ∧ Away φ dx ∧ (PySem.W.clsIn K C).map (·.name) = some c
theorem Bx.at.tr {K : PySem.W.Frag} {φ φ' : Phi} {H H' : Hp} {a : Addr} {vs : List V} {b : Bx} (h : b.at K φ H a vs) (ha : ∀ o, H a = some o → H' a = some o) (st : ∀ a o, H a = some o → Away φ a → H' a = some o ∧ Away φ' a) : b.at K φ' H' a vs := by
  cases b with
  | dK ks => exact ⟨h.1, ha _ h.2⟩
  | dT ks => exact ⟨h.1, ha _ h.2⟩
  | ins c fs =>
    obtain ⟨h1, C, dx, h2, h3, h4, h5⟩ := h
    exact ⟨h1, C, dx, ha _ h2, (st _ _ h3 h4).1, (st _ _ h3 h4).2, h5⟩

section
variable (K : PySem.W.Frag) (φ : Phi) (H : Hp)
mutual
inductive Rel : D → V → Prop
  | non : Rel .non .non
  | bl (b : Bool) : Rel (.bl b) (.bl b)
  | int (i : Int) : Rel (.int i) (.int i)
  | str (x : Str) : Rel (.str x) (.str x)
  | ty (n : String) : Rel (.ty n) (.ty n)
  | tup {a : Addr} {vs : List V} {ds : List D} : vs.length ≤ sizeLine → FT K φ H a vs → RelL ds vs → Rel (.tup ds) (.ref a)
  | lst {a : Addr} {vs : List V} {ds : List D} : vs.length ≤ sizeLine → H a = some (.lst vs) → Away φ a → RelL ds vs → Rel (.lst ds) (.ref a)
  | rol {a : Addr} {vs : List V} {ds : List D} : vs.length ≤ sizeLine → FR K φ H a vs → RelL ds vs → Rel (.rol ds) (.ref a)
  | box {a : Addr} {vs : List V} {ds : List D} {b : Bx} : b.at K φ H a vs → H a ≠ none → Away φ a → RelL ds vs → Rel (.box b ds) (.ref a)
  | ref {l i : Nat} {a : Addr} : look φ.r l i = some a → Rel (.ref l i) (.ref a)
inductive RelL : List D → List V → Prop
  | nil : RelL [] []
  | cons {d : D} {v : V} {ds : List D} {vs : List V} : Rel d v → RelL ds vs → RelL (d :: ds) (v :: vs)
end
end

structure Le (φ : Phi) (H : Hp) (φ' : Phi) (H' : Hp) : Prop where
  dep : φ'.r.length = φ.r.length
  grow : ∀ l i a, look φ.r l i = some a → look φ'.r l i = some a
  stay : ∀ a o, H a = some o → Away φ a → H' a = some o ∧ Away φ' a
  prv : ∀ a, a ∈ φ.p → a ∈ φ'.p
  pst : ∀ a o, a ∈ φ.p → H a = some o → H' a = some o
theorem Le.refl (φ : Phi) (H : Hp) : Le φ H φ H := ⟨rfl, fun _ _ _ h => h, fun _ _ h w => ⟨h, w⟩, fun _ h => h, fun _ _ _ h => h⟩
theorem Le.trans {φ φ1 φ2 : Phi} {H H1 H2 : Hp} (a : Le φ H φ1 H1) (b : Le φ1 H1 φ2 H2) : Le φ H φ2 H2 :=
  ⟨b.dep.trans a.dep, fun l i x h => b.grow l i x (a.grow l i x h), fun x o h w => let ⟨h1, w1⟩ := a.stay x o h w; b.stay x o h1 w1, fun x h => b.prv x (a.prv x h), fun x o h e => b.pst x o (a.prv x h) (a.pst x o h e)⟩
theorem Le.rd {φ φ' : Phi} {H H' : Hp} (e : Le φ H φ' H') {a : Addr} {u : HO} (h : Rd H a u) (w : Away φ a) : Rd H' a u ∧ Away φ' a := by
  rcases h with h | ⟨o, h⟩
  · obtain ⟨h1, w1⟩ := e.stay a _ h w
    exact ⟨.inl h1, w1⟩
  · obtain ⟨h1, w1⟩ := e.stay a _ h w
    exact ⟨.inr ⟨o, h1⟩, w1⟩

/-- what stands away stays -/
abbrev Stays (φ : Phi) (H : Hp) (φ' : Phi) (H' : Hp) : Prop := ∀ a o, H a = some o → Away φ a → H' a = some o ∧ Away φ' a
abbrev Grows (φ φ' : Phi) : Prop := ∀ l i a, look φ.r l i = some a → look φ'.r l i = some a
theorem Stays.rd {φ φ' : Phi} {H H' : Hp} (e : Stays φ H φ' H') {a : Addr} {u : HO} (h : Rd H a u) (w : Away φ a) : Rd H' a u ∧ Away φ' a := by
  rcases h with h | ⟨o, h⟩
  · obtain ⟨h1, w1⟩ := e a _ h w
    exact ⟨.inl h1, w1⟩
  · obtain ⟨h1, w1⟩ := e a _ h w
    exact ⟨.inr ⟨o, h1⟩, w1⟩
theorem Stays.away {φ φ' : Phi} {H H' : Hp} (e : Stays φ H φ' H') {a : Addr} (h : H a ≠ none) (w : Away φ a) : H' a ≠ none ∧ Away φ' a ∧ ∀ o, H a = some o → H' a = some o := by
  cases q : H a with
  | none => exact absurd q h
  | some o =>
    obtain ⟨h1, w1⟩ := e a _ q w
    exact ⟨by rw [h1]; simp, w1, fun o' z => by cases z; exact h1⟩
section
variable {K : PySem.W.Frag} {φ φ' : Phi} {H H' : Hp}
mutual
theorem Rel.tr (st : Stays φ H φ' H') (gr : Grows φ φ') : ∀ {d : D} {v : V}, Rel K φ H d v → Rel K φ' H' d v
  | _, _, .non => .non
  | _, _, .bl b => .bl b
  | _, _, .int i => .int i
  | _, _, .str x => .str x
  | _, _, .ty n => .ty n
  | _, _, .tup z f r => .tup z (by
      rcases f with ⟨f, w⟩ | f
      · exact .inl (Stays.rd st f w)
      · exact .inr f) (RelL.tr st gr r)
  | _, _, .lst z f w r => .lst z (st _ _ f w).1 (st _ _ f w).2 (RelL.tr st gr r)
  | _, _, .rol z f r => .rol z (by
      rcases f with ⟨f, w⟩ | f
      · exact .inl (Stays.rd st f w)
      · exact .inr f) (RelL.tr st gr r)
  | _, _, .box b n w r => .box (b.tr (Stays.away st n w).2.2 st) (Stays.away st n w).1 (Stays.away st n w).2.1 (RelL.tr st gr r)
  | _, _, .ref h => .ref (gr _ _ _ h)
theorem RelL.tr (st : Stays φ H φ' H') (gr : Grows φ φ') : ∀ {ds : List D} {vs : List V}, RelL K φ H ds vs → RelL K φ' H' ds vs
  | _, _, .nil => .nil
  | _, _, .cons h r => .cons (Rel.tr st gr h) (RelL.tr st gr r)
end
theorem Rel.mono (e : Le φ H φ' H') {d : D} {v : V} (h : Rel K φ H d v) : Rel K φ' H' d v := h.tr e.stay e.grow
theorem RelL.mono (e : Le φ H φ' H') {ds : List D} {vs : List V} (h : RelL K φ H ds vs) : RelL K φ' H' ds vs := h.tr e.stay e.grow
theorem RelL.length : ∀ {ds : List D} {vs : List V}, RelL K φ H ds vs → ds.length = vs.length
  | _, _, .nil => rfl
  | _, _, .cons _ r => by simp [RelL.length r]
theorem RelL.get : ∀ {ds : List D} {vs : List V} {i : Nat} {d : D}, RelL K φ H ds vs → ds[i]? = some d → ∃ v, vs[i]? = some v ∧ Rel K φ H d v
  | _, _, _, _, .nil, e => by simp at e
  | _, _, 0, _, .cons r _, e => by simp at e; subst e; exact ⟨_, rfl, r⟩
  | _, _, i + 1, d, .cons _ t, e => by
    obtain ⟨u, h1, h2⟩ := RelL.get (i := i) (d := d) t (by simpa using e)
    exact ⟨u, by simpa using h1, h2⟩
theorem RelL.get' : ∀ {ds : List D} {vs : List V} {i : Nat} {v : V}, RelL K φ H ds vs → vs[i]? = some v → ∃ d, ds[i]? = some d ∧ Rel K φ H d v
  | _, _, _, _, .nil, e => by simp at e
  | _, _, 0, _, .cons r _, e => by simp at e; subst e; exact ⟨_, rfl, r⟩
  | _, _, i + 1, v, .cons _ t, e => by
    obtain ⟨u, h1, h2⟩ := RelL.get' (i := i) (v := v) t (by simpa using e)
    exact ⟨u, by simpa using h1, h2⟩
theorem RelL.append : ∀ {ds es : List D} {vs ws : List V}, RelL K φ H ds vs → RelL K φ H es ws → RelL K φ H (ds ++ es) (vs ++ ws)
  | _, _, _, _, .nil, s => s
  | _, _, _, _, .cons r t, s => .cons r (RelL.append t s)
theorem RelL.take : ∀ {ds : List D} {vs : List V} (n : Nat), RelL K φ H ds vs → RelL K φ H (ds.take n) (vs.take n)
  | _, _, 0, _ => by simp; exact .nil
  | _, _, n + 1, .nil => .nil
  | _, _, n + 1, .cons r t => .cons r (RelL.take n t)
theorem RelL.drop : ∀ {ds : List D} {vs : List V} (n : Nat), RelL K φ H ds vs → RelL K φ H (ds.drop n) (vs.drop n)
  | _, _, 0, r => r
  | _, _, n + 1, .nil => .nil
  | _, _, n + 1, .cons _ t => RelL.drop n t
theorem RelL.set {d : D} {v : V} (q : Rel K φ H d v) : ∀ {ds : List D} {vs : List V} (n : Nat), RelL K φ H ds vs → RelL K φ H (ds.set n d) (vs.set n v)
  | _, _, _, .nil => .nil
  | _, _, 0, .cons r t => .cons q t
  | _, _, n + 1, .cons r t => .cons r (RelL.set q n t)
theorem RelL.reps {ds : List D} {vs : List V} (h : RelL K φ H ds vs) : ∀ k : Nat, RelL K φ H (List.replicate k ds).flatten (List.replicate k vs).flatten
  | 0 => .nil
  | k + 1 => by
    rw [List.replicate_succ, List.replicate_succ, List.flatten_cons, List.flatten_cons]
    exact h.append (RelL.reps h k)
theorem RelL.ints : ∀ (ns : List Int), RelL K φ H (ns.map D.int) (ns.map V.int)
  | [] => .nil
  | n :: ns => .cons (.int n) (RelL.ints ns)
theorem RelL.ints_inv : ∀ {ns : List Int} {vs : List V}, RelL K φ H (ns.map D.int) vs → vs = ns.map V.int
  | [], _, .nil => rfl
  | n :: ns, _, .cons h r => by
    cases h
    rw [RelL.ints_inv r]
    rfl
theorem RelL.bls_inv : ∀ {ns : List Bool} {vs : List V}, RelL K φ H (ns.map D.bl) vs → vs = ns.map V.bl
  | [], _, .nil => rfl
  | n :: ns, _, .cons h r => by
    cases h
    rw [RelL.bls_inv r]
    rfl
end

/-- an object of the store and its address -/
def RO (K : PySem.W.Frag) (φ : Phi) (H : Hp) : O → Addr → Prop
  | .lst ds, a => ∃ vs, H a = some (.lst vs) ∧ vs.length ≤ sizeLine ∧ RelL K φ H ds vs
  | .box b ds, a => ∃ vs, b.at K φ H a vs ∧ RelL K φ H ds vs
  | .dead, _ => True
theorem RO.tr {K : PySem.W.Frag} {φ φ' : Phi} {H H' : Hp} (st : Stays φ H φ' H') (gr : Grows φ φ') : ∀ {o : O} {a : Addr}, (∀ u, H a = some u → H' a = some u) → RO K φ H o a → RO K φ' H' o a
  | .lst ds, a, ha, ⟨vs, h, z, r⟩ => ⟨vs, ha _ h, z, r.tr st gr⟩
  | .box b ds, a, ha, ⟨vs, h, r⟩ => ⟨vs, h.tr ha st, r.tr st gr⟩
  | .dead, _, _, _ => trivial
structure RS (K : PySem.W.Frag) (φ : Phi) (H : Hp) (S : Sto) : Prop where
  shape : φ.r.map List.length = S.map List.length
  obj : ∀ l i o a, look S l i = some o → look φ.r l i = some a → RO K φ H o a
  inj : ∀ l i l' i' a, look φ.r l i = some a → look φ.r l' i' = some a → l = l' ∧ i = i'
  lev : ∀ l i o, look S l i = some o → o.le l = true
  trk : ∀ l i a, look φ.r l i = some a → H a ≠ none
  ptrk : ∀ a, a ∈ φ.p → H a ≠ none
  dis : ∀ l i a, look φ.r l i = some a → a ∉ φ.p
section
variable {K : PySem.W.Frag} {φ φ' : Phi} {H H' : Hp} {S : Sto}
theorem RS.dep (h : RS K φ H S) : φ.r.length = S.length := by
  have := congrArg List.length h.shape
  simpa using this
theorem RS.fresh (h : RS K φ H S) {p : Addr} (hp : H p = none) : Away φ p := ⟨fun l i e => h.trk l i p e hp, fun e => h.ptrk p e hp⟩
theorem RS.at (h : RS K φ H S) {l i : Nat} {o : O} (e : look S l i = some o) : ∃ a, look φ.r l i = some a ∧ RO K φ H o a := by
  obtain ⟨a, ha⟩ := look_of_shape h.shape.symm e
  exact ⟨a, ha, h.obj l i o a e ha⟩
/-- a new thing that is never changed -/
theorem Le.laid {p : Addr} {o : HO} (h : RS K φ H S) (hp : H p = none) : Le φ H φ (upd H p o) :=
  ⟨rfl, fun _ _ _ e => e, fun a u e w => ⟨by rw [upd_ne (ne_of_none e hp)]; exact e, w⟩, fun _ e => e, fun a u _ e => by rw [upd_ne (ne_of_none e hp)]; exact e⟩
theorem Le.fresh {p : Addr} {o : HO} (hp : H p = none) : Le φ H φ (upd H p o) :=
  ⟨rfl, fun _ _ _ e => e, fun a u e w => ⟨by rw [upd_ne (ne_of_none e hp)]; exact e, w⟩, fun _ e => e, fun a u _ e => by rw [upd_ne (ne_of_none e hp)]; exact e⟩
theorem upd_some {H : Hp} {p a : Addr} {o u : HO} (hp : H p = none) (h : H a = some u) : upd H p o a = some u := by
  rw [upd_ne (ne_of_none h hp)]; exact h
mutual
theorem Rel.laid {p : Addr} {o : HO} (hp : H p = none) : ∀ {d : D} {v : V}, Rel K φ H d v → Rel K φ (upd H p o) d v := fun h => h.mono (Le.fresh hp)
theorem RelL.laid {p : Addr} {o : HO} (hp : H p = none) : ∀ {ds : List D} {vs : List V}, RelL K φ H ds vs → RelL K φ (upd H p o) ds vs := fun h => h.mono (Le.fresh hp)
end
theorem RO.laid {p : Addr} {u : HO} (hp : H p = none) {o : O} {a : Addr} (h : RO K φ H o a) : RO K φ (upd H p u) o a := h.tr (Le.fresh (o := u) hp).stay (fun _ _ _ e => e) fun _ e => upd_some hp e
theorem RS.laid {p : Addr} {u : HO} (h : RS K φ H S) (hp : H p = none) : RS K φ (upd H p u) S :=
  ⟨h.shape, fun l i o a e1 e2 => (h.obj l i o a e1 e2).laid hp, h.inj, h.lev, fun l i a e => by
    have := h.trk l i a e
    cases q : H a with
    | none => exact absurd q this
    | some o => rw [upd_some hp q]; simp, fun a e => by
    have := h.ptrk a e
    cases q : H a with
    | none => exact absurd q this
    | some o => rw [upd_some hp q]; simp, h.dis⟩
end

/-! ### what an expression means -/
structure Exn where
  c : Str
  fs : List (Str × D)
inductive R (α : Type) where
  | ok (a : α) (S : Sto)
  | err (x : Exn) (S : Sto)
  | bad
def R.bind {α β : Type} (r : R α) (f : α → Sto → R β) : R β := match r with
  | .ok a S => f a S
  | .err x S => .err x S
  | .bad => .bad
@[simp] theorem R.bind_ok {α β : Type} (a : α) (S : Sto) (f : α → Sto → R β) : (R.ok a S).bind f = f a S := (rfl)
@[simp] theorem R.bind_err {α β : Type} (x : Exn) (S : Sto) (f : α → Sto → R β) : (R.err x S : R α).bind f = .err x S := (rfl)
@[simp] theorem R.bind_bad {α β : Type} (f : α → Sto → R β) : (R.bad : R α).bind f = .bad := (rfl)
abbrev Ro := List (Option D)
abbrev C := Ro → Sto → R D
abbrev CT := Ro → Sto → R Bool
abbrev CA := Ro → Sto → R (List D)

def RE (K : PySem.W.Frag) (φ : Phi) (H : Hp) (ρ : Ro) (σ : L2.St) : Prop := ρ.length = σ.length ∧ ∀ (i : Nat) (d : D), ρ[i]? = some (some d) → ∃ v, σ[i]? = some (some v) ∧ Rel K φ H d v
theorem RE.mono {K : PySem.W.Frag} {φ φ' : Phi} {H H' : Hp} {ρ : Ro} {σ : L2.St} (h : RE K φ H ρ σ) (e : Le φ H φ' H') : RE K φ' H' ρ σ :=
  ⟨h.1, fun i d q => let ⟨v, a, b⟩ := h.2 i d q; ⟨v, a, b.mono e⟩⟩
theorem RE.set {K : PySem.W.Frag} {φ : Phi} {H : Hp} {ρ : Ro} {σ : L2.St} {d : D} {v : V} (h : RE K φ H ρ σ) (r : Rel K φ H d v) (i : Nat) : RE K φ H (ρ.set i (some d)) (σ.set i (some v)) := by
  refine ⟨by simpa using h.1, fun j d' q => ?_⟩
  by_cases e : i = j
  · subst e
    have hl : i < ρ.length := by
      have := (List.getElem?_eq_some_iff.mp q).1
      simpa using this
    rw [List.getElem?_set_self hl] at q
    cases q
    exact ⟨v, List.getElem?_set_self (by rw [← h.1]; exact hl), r⟩
  · rw [List.getElem?_set_ne e] at q
    rw [List.getElem?_set_ne e]
    exact h.2 j d' q
def RF (K : PySem.W.Frag) (φ : Phi) (H : Hp) (fs : List (Str × D)) (vs : List (Str × V)) : Prop := fs.map (·.1) = vs.map (·.1) ∧ RelL K φ H (fs.map (·.2)) (vs.map (·.2))
/-- an exception of an own class, its own dict -/
def RX (K : PySem.W.Frag) (mg : Str → Option Value) (φ : Phi) (H : Hp) (x : Exn) (cls : Value) (d : Option Addr) : Prop :=
  ∃ a dx vs, cls = .ref a ∧ mg x.c = some (.ref a) ∧ d = some dx ∧ H dx = some (.xd vs) ∧ Away φ dx ∧ RF K φ H x.fs vs

section
variable (K : PySem.W.Frag) (mg : Str → Option Value)
/-- how a result meets a wish; `rel` relates the value -/
def Ok {α β : Type} (rel : Phi → Hp → α → β → Prop) (φ : Phi) (H : Hp) (E : Value → Option Addr → Hp → Prop) (Q : β → Hp → Prop) : R α → Prop
  | .ok d S' => ∀ φ' H' v, Le φ H φ' H' → RS K φ' H' S' → rel φ' H' d v → Q v H'
  | .err x S' => ∀ φ' H' cls dx, Le φ H φ' H' → RS K φ' H' S' → RX K mg φ' H' x cls dx → E cls dx H'
  | .bad => False
end
def eqB (φ : Phi) (H : Hp) (b c : Bool) : Prop := b = c
section
variable {K : PySem.W.Frag} {mg : Str → Option Value} {α β α' β' : Type} {rel : Phi → Hp → α → β → Prop} {rel' : Phi → Hp → α' → β' → Prop} {φ φ' : Phi} {H H' : Hp} {E : Value → Option Addr → Hp → Prop} {Q : β → Hp → Prop} {Q' : β' → Hp → Prop}
theorem Ok.later {r : R α} (e : Le φ H φ' H') (h : Ok K mg rel φ H E Q r) : Ok K mg rel φ' H' E Q r := by
  cases r with
  | ok d S => exact fun φ2 H2 v l s q => h φ2 H2 v (e.trans l) s q
  | err x S => exact fun φ2 H2 c d l s q => h φ2 H2 c d (e.trans l) s q
  | bad => exact h
/-- the first part, then the rest -/
theorem Ok.step {r : R α} {f : α → Sto → R α'} (h : Ok K mg rel' φ H E Q' (r.bind f)) (k : ∀ d S φ1 H1 v, r = .ok d S → Le φ H φ1 H1 → RS K φ1 H1 S → rel φ1 H1 d v → Ok K mg rel' φ1 H1 E Q' (f d S) → Q v H1) : Ok K mg rel φ H E Q r := by
  cases r with
  | ok d S => exact fun φ1 H1 v l s q => k d S φ1 H1 v rfl l s q (Ok.later l h)
  | err x S => exact h
  | bad => exact h
end

section
variable {X : Cx} (W : WX)
abbrev Cx.K' (X : Cx) := X.K
def rdE (X : Cx) (W : WX) (c : C) : TE := fun σ H Q => ∃ ρ φ S, RE X.K φ H ρ σ ∧ RS X.K φ H S ∧ Ok X.K X.mg (Rel X.K) φ H (fun cls d H' => W cls d σ H') Q (c ρ S)
def rdT (X : Cx) (W : WX) (c : CT) : TT := fun σ H Q => ∃ ρ φ S, RE X.K φ H ρ σ ∧ RS X.K φ H S ∧ Ok X.K X.mg eqB φ H (fun cls d H' => W cls d σ H') Q (c ρ S)
def rdA (X : Cx) (W : WX) (c : CA) : TA := fun σ H Q => ∃ ρ φ S, RE X.K φ H ρ σ ∧ RS X.K φ H S ∧ Ok X.K X.mg (RelL X.K) φ H (fun cls d H' => W cls d σ H') Q (c ρ S)
end
structure ME (X : Cx) (W : WX) (e : Expr) (c : C) : Prop where
  pe : PE X e (rdE X W c)
structure MT (X : Cx) (W : WX) (e : Expr) (c : CT) : Prop where
  pt : PT X e (rdT X W c)
structure MW (X : Cx) (W : WX) (e : Expr) (c : CT) : Prop where
  pw : PW X e (rdT X W c)
structure MA (X : Cx) (W : WX) (es : List Expr) (c : CA) : Prop where
  pa : PA X es (rdA X W c)
  len : ∀ ρ S ds S', c ρ S = .ok ds S' → ds.length = es.length
section
variable {X : Cx} {W : WX} {e : Expr} {es : List Expr}
theorem _root_.L2.PE.imp {t u : TE} (h : PE X e t) (k : ∀ σ H Q, u σ H Q → t σ H Q) : PE X e u := ⟨fun pins s σ H Q I z => h.run pins s σ H Q I (k σ H Q z)⟩
theorem _root_.L2.PT.imp {t u : TT} (h : PT X e t) (k : ∀ σ H Q, u σ H Q → t σ H Q) : PT X e u := ⟨fun pins s σ H Q I z => h.run pins s σ H Q I (k σ H Q z)⟩
theorem _root_.L2.PW.imp {t u : TT} (h : PW X e t) (k : ∀ σ H Q, u σ H Q → t σ H Q) : PW X e u := ⟨fun wh pins s σ H Q I z => h.run wh pins s σ H Q I (k σ H Q z)⟩
theorem _root_.L2.PA.imp {t u : TA} (h : PA X es t) (k : ∀ σ H Q, u σ H Q → t σ H Q) : PA X es u := ⟨fun pos pins s σ H Q I z => h.run pos pins s σ H Q I (k σ H Q z)⟩
theorem MW.mt {c : CT} (h : MW X W e c) : MT X W e c := ⟨h.pw.pt⟩
end

/-! ### names, constants -/
def cV (i : Nat) : C := fun ρ S => match ρ[i]? with
  | some (some d) => .ok d S
  | _ => .bad
def cK (d : D) : C := fun _ S => .ok d S
section
variable {X : Cx} {W : WX} {pos : Pos}
theorem me_v (i : Nat) {x : Str} (hN : X.N[i]? = some x := by rfl) (hv : Vis X.env.scope x := by first | exact Or.inl rfl | exact Or.inr (Or.inl rfl) | exact Or.inr (Or.inr rfl)) (hd : (x == ("__debug__" : Str)) = false := by decide)
    (hcd : (x == ("__classdict__" : Str)) = false := by decide) : ME X W (.Name x pos) (cV i) := by
  refine ⟨(pe_var (i := i) hN hv hd hcd).imp fun σ H Q h => ?_⟩
  obtain ⟨ρ, φ, S, he, hs, h⟩ := h
  unfold cV at h
  split at h
  · rename_i d q
    obtain ⟨v, e1, r⟩ := he.2 i d q
    exact ⟨v, e1, h φ H v (Le.refl _ _) hs r⟩
  · exact h.elim
theorem me_c {e : Expr} {d : D} {v : V} (h : PE X e (tC v)) (r : ∀ φ H, Rel X.K φ H d v) : ME X W e (cK d) := by
  refine ⟨h.imp fun σ H Q h => ?_⟩
  obtain ⟨ρ, φ, S, he, hs, h⟩ := h
  exact h φ H v (Le.refl _ _) hs (r φ H)
theorem me_int {i j} : ME X W (.Constant (.int i) j pos) (cK (.int i)) := me_c pe_int fun _ _ => .int i
theorem me_bl {b j} : ME X W (.Constant (.bool b) j pos) (cK (.bl b)) := me_c pe_bl fun _ _ => .bl b
theorem me_non {j} : ME X W (.Constant .none j pos) (cK .non) := me_c pe_non fun _ _ => .non
theorem me_str {x j} : ME X W (.Constant (.str x) j pos) (cK (.str x)) := me_c pe_str fun _ _ => .str x
/-- a module's constant that is no object -/
theorem me_glob {x : Str} {d : D} {v : V} {u : Value} (hg : Gl X x) (hm : X.mg x = some u) (r : RelV v u) (q : ∀ φ H, Rel X.K φ H d v) (hd : (x == ("__debug__" : Str)) = false := by decide) : ME X W (.Name x pos) (cK d) :=
  me_c (pe_glob hg hm r hd) q
end

/-! ### arguments -/
def caNil : CA := fun _ S => .ok [] S
def caCons (a : C) (b : CA) : CA := fun ρ S => (a ρ S).bind fun d S => (b ρ S).bind fun ds S => .ok (d :: ds) S
section
variable {X : Cx} {W : WX} {pos : Pos} {e : Expr} {es : List Expr}
theorem ma_nil : MA X W [] caNil := by
  refine ⟨pa_nil.imp fun σ H Q h => ?_, fun ρ S ds S' h => ?_⟩
  · obtain ⟨ρ, φ, S, he, hs, h⟩ := h
    exact h φ H [] (Le.refl _ _) hs .nil
  · cases h; rfl
theorem ma_cons {a : C} {b : CA} (ha : ME X W e a) (hb : MA X W es b) (hs : starEach (e :: es) X.env = (false, eval e X.env) :: starEach es X.env := by rfl) : MA X W (e :: es) (caCons a b) := by
  refine ⟨(pa_cons ha.pe hb.pa hs).imp fun σ H Q h => ?_, fun ρ S ds S' h => ?_⟩
  · obtain ⟨ρ, φ, S, he, hs, h⟩ := h
    refine ⟨ρ, φ, S, he, hs, h.step fun d S1 φ1 H1 v q l s r h => ?_⟩
    refine ⟨ρ, φ1, S1, he.mono l, s, h.step fun ds S2 φ2 H2 vs q2 l2 s2 r2 h => ?_⟩
    exact h φ2 H2 _ (Le.refl _ _) s2 (.cons (r.mono l2) r2)
  · unfold caCons at h
    cases q : a ρ S with
    | ok d S1 =>
      rw [q, R.bind_ok] at h
      cases q2 : b ρ S1 with
      | ok ds2 S2 =>
        rw [q2, R.bind_ok] at h
        injection h with h1 h2
        rw [← h1]
        simp [hb.len _ _ _ _ q2]
      | err x S2 => rw [q2] at h; cases h
      | bad => rw [q2] at h; cases h
    | err x S1 => rw [q] at h; cases h
    | bad => rw [q] at h; cases h
end

/-! ### operators by values -/
abbrev G2 := D → D → Sto → R D
def cB (g : G2) (a b : C) : C := fun ρ S => (a ρ S).bind fun x S => (b ρ S).bind fun y S => g x y S
def cU (g : D → Sto → R D) (a : C) : C := fun ρ S => (a ρ S).bind fun x S => g x S
/-- an operator of two values has a meaning -/
def OS (X : Cx) (f : Value → Value → Sem Value) (g : G2) : Prop :=
  ∃ r : R2, OpR X f r ∧ ∀ (W : WX) (σ : L2.St) (φ : Phi) (H : Hp) (S : Sto) (x y : D) (vx vy : V) (Q : VK), RS X.K φ H S → Rel X.K φ H x vx → Rel X.K φ H y vy → Ok X.K X.mg (Rel X.K) φ H (fun cls d H' => W cls d σ H') Q (g x y S) → r vx vy H Q
section
variable {X : Cx} {W : WX} {pos : Pos} {a b : Expr} {ca cb : C}
theorem bin_imp {ta : C} {r : R2} {g : G2} {ca cb : C} {σ : L2.St} {H : Hp} {Q : VK}
    (k : ∀ (φ : Phi) (H : Hp) (S : Sto) (x y : D) (vx vy : V), RS X.K φ H S → Rel X.K φ H x vx → Rel X.K φ H y vy → Ok X.K X.mg (Rel X.K) φ H (fun cls d H' => W cls d σ H') Q (g x y S) → r vx vy H Q)
    (h : rdE X W (cB g ca cb) σ H Q) : tOp r (rdE X W ca) (rdE X W cb) σ H Q := by
  obtain ⟨ρ, φ, S, he, hs, h⟩ := h
  refine ⟨ρ, φ, S, he, hs, h.step fun d S1 φ1 H1 v q l s rx h => ?_⟩
  refine ⟨ρ, φ1, S1, he.mono l, s, h.step fun d2 S2 φ2 H2 v2 q2 l2 s2 ry h => ?_⟩
  exact k φ2 H2 S2 d d2 v v2 s2 (rx.mono l2) ry h
theorem me_op {op : Operator} {g : G2} (ho : OS X (binaryOp op) g) (ha : ME X W a ca) (hb : ME X W b cb) : ME X W (.BinOp a op b pos) (cB g ca cb) := by
  obtain ⟨r, hr, k⟩ := ho
  exact ⟨(pe_op hr ha.pe hb.pe).imp fun σ H Q h => bin_imp (ta := ca) (fun φ H S x y vx vy s rx ry z => k W σ φ H S x y vx vy Q s rx ry z) h⟩
theorem me_cmp {op : CmpOp} {g : G2} (ho : OS X (compareOp op) g) (ha : ME X W a ca) (hb : ME X W b cb) (hm : behindInMarks op b = false) : ME X W (.Compare a [op] [b] pos) (cB g ca cb) := by
  obtain ⟨r, hr, k⟩ := ho
  exact ⟨(pe_cmpR hr ha.pe hb.pe hm).imp fun σ H Q h => bin_imp (ta := ca) (fun φ H S x y vx vy s rx ry z => k W σ φ H S x y vx vy Q s rx ry z) h⟩
end
def US (X : Cx) (f : Value → Sem Value) (g : D → Sto → R D) : Prop :=
  ∃ r : V → Hp → VK → Prop, UnR X f r ∧ ∀ (W : WX) (σ : L2.St) (φ : Phi) (H : Hp) (S : Sto) (x : D) (vx : V) (Q : VK), RS X.K φ H S → Rel X.K φ H x vx → Ok X.K X.mg (Rel X.K) φ H (fun cls d H' => W cls d σ H') Q (g x S) → r vx H Q
theorem me_un {X : Cx} {W : WX} {pos : Pos} {a : Expr} {ca : C} {op : UnaryOp} {g : D → Sto → R D} (ho : US X (unaryOp op) g) (ha : ME X W a ca) : ME X W (.UnaryOp op a pos) (cU g ca) := by
  obtain ⟨r, hr, k⟩ := ho
  refine ⟨(pe_un hr ha.pe).imp fun σ H Q h => ?_⟩
  obtain ⟨ρ, φ, S, he, hs, h⟩ := h
  refine ⟨ρ, φ, S, he, hs, h.step fun d S1 φ1 H1 v q l s rx h => ?_⟩
  exact k W σ φ1 H1 S1 d v Q s rx h
end MP

/-! MP: operators, comparisons, tests. -/
namespace MP
open PySem PySem.Spec PyProof.Rows L2

theorem line_ge {n : Nat} (h : n ≤ 16000000) : n ≤ sizeLine := Nat.le_trans h (by rw [sizeLine_eq]; decide)
theorem line_gt {n : Nat} (h : n < 16000000) : n < sizeLine := Nat.lt_of_lt_of_le h (by rw [sizeLine_eq]; decide)

section
variable {X : Cx}
/-- one rule or the other, by the meaning -/
theorem OS.of {f : Value → Value → Sem Value} {g : G2} (r : R2) (hr : OpR X f r) (k : ∀ (W : WX) (σ : L2.St) (φ : Phi) (H : Hp) (S : Sto) (x y : D) (vx vy : V) (Q : VK), RS X.K φ H S → Rel X.K φ H x vx → Rel X.K φ H y vy → Ok X.K X.mg (Rel X.K) φ H (fun cls d H' => W cls d σ H') Q (g x y S) → r vx vy H Q) : OS X f g := ⟨r, hr, k⟩
/-- the same meaning where this one says anything -/
theorem OS.or {f : Value → Value → Sem Value} {g1 g2 g : G2} (h1 : OS X f g1) (h2 : OS X f g2) (e : ∀ x y S, g x y S = g1 x y S ∨ g x y S = g2 x y S) : OS X f g := by
  obtain ⟨r1, a1, k1⟩ := h1
  obtain ⟨r2, a2, k2⟩ := h2
  refine ⟨_, a1.or a2, fun W σ φ H S x y vx vy Q s rx ry z => ?_⟩
  rcases e x y S with e | e
  · rw [e] at z
    exact .inl (k1 W σ φ H S x y vx vy Q s rx ry z)
  · rw [e] at z
    exact .inr (k2 W σ φ H S x y vx vy Q s rx ry z)

/-- ints -/
def g2I (c : Int → Int → Prop) [∀ i j, Decidable (c i j)] (f : Int → Int → D) : G2
  | .int i, .int j, S => if c i j then .ok (f i j) S else .bad
  | _, _, _ => .bad
theorem os_I {f : Value → Value → Sem Value} {c c' : Int → Int → Prop} [∀ i j, Decidable (c i j)] {g : Int → Int → D} {g' : Int → Int → V} (hr : OpR X f (rI c' g')) (hc : ∀ i j, c i j → c' i j) (hg : ∀ φ H i j, Rel X.K φ H (g i j) (g' i j)) : OS X f (g2I c g) := by
  refine ⟨_, hr, fun W σ φ H S x y vx vy Q s rx ry z => ?_⟩
  cases rx <;> try exact z.elim
  cases ry <;> try exact z.elim
  rename_i i j
  unfold g2I at z
  by_cases h : c i j
  · simp only [h, if_true] at z
    exact ⟨i, j, rfl, rfl, hc i j h, z φ H _ (Le.refl _ _) s (hg φ H i j)⟩
  · simp only [h, if_false] at z
    exact z.elim
def g2I0 (f : Int → Int → D) : G2
  | .int i, .int j, S => .ok (f i j) S
  | _, _, _ => .bad
theorem os_I0 {f : Value → Value → Sem Value} {g : Int → Int → D} {g' : Int → Int → V} (hr : OpR X f (rI0 g')) (hg : ∀ φ H i j, Rel X.K φ H (g i j) (g' i j)) : OS X f (g2I0 g) := by
  refine ⟨_, hr, fun W σ φ H S x y vx vy Q s rx ry z => ?_⟩
  cases rx <;> try exact z.elim
  cases ry <;> try exact z.elim
  rename_i i j
  exact ⟨i, j, rfl, rfl, z φ H _ (Le.refl _ _) s (hg φ H i j)⟩

def gSub : G2 := g2I0 fun i j => .int (i - j)
def gAnd : G2 := g2I0 fun i j => .int (Builtin.bitAnd i j)
def gOr : G2 := g2I0 fun i j => .int (Builtin.bitOr i j)
def gXor : G2 := g2I0 fun i j => .int (Builtin.bitXor i j)
def gFdiv : G2 := g2I (fun _ j => 0 < j ∧ j < 1073741824) fun i j => .int (i / j)
def gMod : G2 := g2I (fun _ j => 0 < j) fun i j => .int (i % j)
def gPow : G2 := g2I (fun i j => 0 ≤ j ∧ j ≤ 1000000 ∧ i.natAbs < 18446744073709551616) fun i j => .int (i ^ j.toNat)
def gShl : G2 := g2I (fun i j => 0 ≤ j ∧ j ≤ 1000000 ∧ i.natAbs < 18446744073709551616) fun i j => .int (i * 2 ^ j.toNat)
def gShr : G2 := g2I (fun _ j => 0 ≤ j) fun i j => .int (i / 2 ^ j.toNat)
theorem os_sub : OS X (binaryOp .Sub) gSub := os_I0 op_sub fun _ _ _ _ => .int _
theorem os_and : OS X (binaryOp .BitAnd) gAnd := os_I0 op_and fun _ _ _ _ => .int _
theorem os_or : OS X (binaryOp .BitOr) gOr := os_I0 op_or fun _ _ _ _ => .int _
theorem os_xor : OS X (binaryOp .BitXor) gXor := os_I0 op_xor fun _ _ _ _ => .int _
theorem os_fdiv : OS X (binaryOp .FloorDiv) gFdiv := os_I op_fdiv (fun _ _ h => h) fun _ _ _ _ => .int _
theorem os_mod : OS X (binaryOp .Mod) gMod := os_I op_mod (fun _ _ h => h) fun _ _ _ _ => .int _
theorem pow64 : (18446744073709551616 : Nat) = 2 ^ 64 := by decide
theorem os_pow : OS X (binaryOp .Pow) gPow := os_I op_pow (fun i j h => ⟨h.1, h.2.1, by rw [← pow64]; exact h.2.2⟩) fun _ _ _ _ => .int _
theorem os_shl : OS X (binaryOp .LShift) gShl := os_I op_shl (fun i j h => ⟨h.1, h.2.1, by rw [← pow64]; exact h.2.2⟩) fun _ _ _ _ => .int _
theorem os_shr : OS X (binaryOp .RShift) gShr := os_I op_shr (fun _ _ h => h) fun _ _ _ _ => .int _
theorem osi_sub : OS X (inplaceOp .Sub) gSub := os_I0 iop_sub fun _ _ _ _ => .int _
theorem osi_and : OS X (inplaceOp .BitAnd) gAnd := os_I0 iop_and fun _ _ _ _ => .int _
theorem osi_or : OS X (inplaceOp .BitOr) gOr := os_I0 iop_or fun _ _ _ _ => .int _
theorem osi_xor : OS X (inplaceOp .BitXor) gXor := os_I0 iop_xor fun _ _ _ _ => .int _
theorem osi_fdiv : OS X (inplaceOp .FloorDiv) gFdiv := os_I iop_fdiv (fun _ _ h => h) fun _ _ _ _ => .int _
theorem osi_mod : OS X (inplaceOp .Mod) gMod := os_I iop_mod (fun _ _ h => h) fun _ _ _ _ => .int _
theorem osi_shl : OS X (inplaceOp .LShift) gShl := os_I iop_shl (fun i j h => ⟨h.1, h.2.1, by rw [← pow64]; exact h.2.2⟩) fun _ _ _ _ => .int _
theorem osi_shr : OS X (inplaceOp .RShift) gShr := os_I iop_shr (fun _ _ h => h) fun _ _ _ _ => .int _
def gLt : G2 := g2I0 fun i j => .bl (decide (i < j))
def gLe : G2 := g2I0 fun i j => .bl (decide (i ≤ j))
def gGt : G2 := g2I0 fun i j => .bl (decide (j < i))
def gGe : G2 := g2I0 fun i j => .bl (decide (j ≤ i))
theorem os_lt : OS X (compareOp .Lt) gLt := os_I0 op_lt fun _ _ _ _ => .bl _
theorem os_le : OS X (compareOp .LtE) gLe := os_I0 op_le fun _ _ _ _ => .bl _
theorem os_gt : OS X (compareOp .Gt) gGt := os_I0 op_gt fun _ _ _ _ => .bl _
theorem os_ge : OS X (compareOp .GtE) gGe := os_I0 op_ge fun _ _ _ _ => .bl _

/-! ### + -/
def gCatL : G2
  | .lst xs, .lst ys, S => if xs.length + ys.length ≤ 16000000 then .ok (.lst (xs ++ ys)) S else .bad
  | _, _, _ => .bad
def gCatT : G2
  | .tup xs, .tup ys, S => if xs.length + ys.length ≤ 16000000 then .ok (.tup (xs ++ ys)) S else .bad
  | _, _, _ => .bad
def gCatS : G2
  | .str x, .str y, S => if x.length + y.length ≤ 16000000 then .ok (.str (x ++ y)) S else .bad
  | _, _, _ => .bad
def gAdd : G2
  | .int i, .int j, S => .ok (.int (i + j)) S
  | .str x, .str y, S => if x.length + y.length ≤ 16000000 then .ok (.str (x ++ y)) S else .bad
  | .lst xs, .lst ys, S => if xs.length + ys.length ≤ 16000000 then .ok (.lst (xs ++ ys)) S else .bad
  | .tup xs, .tup ys, S => if xs.length + ys.length ≤ 16000000 then .ok (.tup (xs ++ ys)) S else .bad
  | _, _, _ => .bad
theorem os_catL : OS X (binaryOp .Add) gCatL := by
  refine ⟨_, op_cat, fun W σ φ H S x y vx vy Q s rx ry z => ?_⟩
  cases rx <;> try exact z.elim
  rename_i a vs xs z1 h1 w1 r1
  cases ry <;> try exact z.elim
  rename_i b ws ys z2 h2 w2 r2
  unfold gCatL at z
  by_cases h : xs.length + ys.length ≤ 16000000
  · simp only [h, if_true] at z
    have hl : vs.length + ws.length ≤ 16000000 := by rw [← r1.length, ← r2.length]; exact h
    refine ⟨a, b, vs, ws, rfl, rfl, h1, h2, line_ge hl, fun p hp => ?_⟩
    exact z φ _ _ (Le.fresh hp) (s.laid hp) (.lst (by rw [List.length_append]; exact line_ge hl) upd_same (s.fresh hp) ((r1.append r2).laid hp))
  · simp only [h, if_false] at z
    exact z.elim
theorem os_catT : OS X (binaryOp .Add) gCatT := by
  refine ⟨_, op_catA, fun W σ φ H S x y vx vy Q s rx ry z => ?_⟩
  cases rx <;> try exact z.elim
  rename_i a vs xs z1 h1 r1
  cases ry <;> try exact z.elim
  rename_i b ws ys z2 h2 r2
  unfold gCatT at z
  by_cases h : xs.length + ys.length ≤ 16000000
  · simp only [h, if_true] at z
    have hl : vs.length + ws.length ≤ 16000000 := by rw [← r1.length, ← r2.length]; exact h
    have rr := r1.append r2
    refine ⟨a, b, vs, ws, rfl, rfl, h1.sq, h2.sq, line_ge hl, fun e => ?_, fun _ e => ?_, fun _ _ p hp => ?_⟩
    · subst e
      exact z φ H _ (Le.refl _ _) s (.tup z2 h2 rr)
    · subst e
      rw [List.append_nil] at rr
      exact z φ H _ (Le.refl _ _) s (.tup z1 h1 rr)
    · exact z φ _ _ (Le.fresh hp) (s.laid hp) (.tup (by rw [List.length_append]; exact line_ge hl) (.inl ⟨.inl upd_same, s.fresh hp⟩) (rr.laid hp))
  · simp only [h, if_false] at z
    exact z.elim
theorem os_catS : OS X (binaryOp .Add) gCatS := by
  refine ⟨_, op_add_str, fun W σ φ H S x y vx vy Q s rx ry z => ?_⟩
  cases rx <;> try exact z.elim
  cases ry <;> try exact z.elim
  rename_i x y
  unfold gCatS at z
  by_cases h : x.length + y.length ≤ 16000000
  · simp only [h, if_true] at z
    exact ⟨x, y, rfl, rfl, line_ge h, z φ H _ (Le.refl _ _) s (.str _)⟩
  · simp only [h, if_false] at z
    exact z.elim
theorem os_add : OS X (binaryOp .Add) gAdd := by
  refine OS.or (os_I0 (g := fun i j => .int (i + j)) op_add fun _ _ _ _ => .int _) (OS.or os_catL (OS.or os_catT os_catS (g := fun x y S => match x, y with
    | .tup _, .tup _ => gCatT x y S
    | .str _, .str _ => gCatS x y S
    | _, _ => .bad) ?_) (g := fun x y S => match x, y with
    | .lst _, .lst _ => gCatL x y S
    | .tup _, .tup _ => gCatT x y S
    | .str _, .str _ => gCatS x y S
    | _, _ => .bad) ?_) ?_
  · intro x y S
    cases x <;> cases y <;> first | exact .inl rfl | exact .inr rfl
  · intro x y S
    cases x <;> cases y <;> first | exact .inl rfl | exact .inr rfl
  · intro x y S
    cases x <;> cases y <;> first | exact .inl rfl | exact .inr rfl
/-- x += y of ints and texts -/
def gIAdd : G2
  | .int i, .int j, S => .ok (.int (i + j)) S
  | .str x, .str y, S => if x.length + y.length ≤ 16000000 then .ok (.str (x ++ y)) S else .bad
  | _, _, _ => .bad
theorem osi_add : OS X (inplaceOp .Add) gIAdd := by
  refine OS.or (os_I0 (g := fun i j => .int (i + j)) iop_add fun _ _ _ _ => .int _) (g2 := gCatS) ⟨_, iop_add_str, fun W σ φ H S x y vx vy Q s rx ry z => ?_⟩ ?_
  · cases rx <;> try exact z.elim
    cases ry <;> try exact z.elim
    rename_i x y
    unfold gCatS at z
    by_cases h : x.length + y.length ≤ 16000000
    · simp only [h, if_true] at z
      exact ⟨x, y, rfl, rfl, line_ge h, z φ H _ (Le.refl _ _) s (.str _)⟩
    · simp only [h, if_false] at z
      exact z.elim
  · intro x y S
    cases x <;> cases y <;> first | exact .inl rfl | exact .inr rfl

/-! ### * -/
def gMulI : G2 := g2I (fun i j => i.natAbs < 18446744073709551616 ∨ j.natAbs < 18446744073709551616) fun i j => .int (i * j)
def gRepL : G2
  | .lst xs, .int k, S => if 0 ≤ k ∧ k ≤ 100000 ∧ xs.length * k.toNat ≤ 16000000 then .ok (.lst (List.replicate k.toNat xs).flatten) S else .bad
  | _, _, _ => .bad
def gRepT : G2
  | .tup xs, .int k, S => if xs ≠ [] ∧ 2 ≤ k ∧ k ≤ 1000 ∧ xs.length ≤ 1000 then .ok (.tup (List.replicate k.toNat xs).flatten) S else .bad
  | _, _, _ => .bad
def gMul : G2
  | .int i, .int j, S => gMulI (.int i) (.int j) S
  | .lst xs, .int k, S => gRepL (.lst xs) (.int k) S
  | .tup xs, .int k, S => gRepT (.tup xs) (.int k) S
  | _, _, _ => .bad
theorem os_mulI : OS X (binaryOp .Mult) gMulI := os_I op_mul (fun i j h => by
  rcases h with h | h
  · refine .inl ?_
    show -(2 ^ 64) < i ∧ i < 2 ^ 64
    omega
  · refine .inr ?_
    show -(2 ^ 64) < j ∧ j < 2 ^ 64
    omega) fun _ _ _ _ => .int _
theorem flat_len {α : Type} (xs : List α) : ∀ k : Nat, (List.replicate k xs).flatten.length = k * xs.length
  | 0 => by simp
  | k + 1 => by
    rw [List.replicate_succ, List.flatten_cons, List.length_append, flat_len xs k, Nat.succ_mul]
    omega
theorem os_repL : OS X (binaryOp .Mult) gRepL := by
  refine ⟨_, op_rep, fun W σ φ H S x y vx vy Q s rx ry z => ?_⟩
  cases rx <;> try exact z.elim
  rename_i a vs xs z1 h1 w1 r1
  cases ry <;> try exact z.elim
  rename_i k
  unfold gRepL at z
  by_cases h : 0 ≤ k ∧ k ≤ 100000 ∧ xs.length * k.toNat ≤ 16000000
  · simp only [h, and_self, if_true] at z
    have hl : vs.length * k.toNat ≤ 16000000 := by rw [← r1.length]; exact h.2.2
    have h63 : (100000 : Int) < 2 ^ 63 := by decide
    refine ⟨a, k, vs, rfl, rfl, h1, by omega, by omega, line_ge hl, fun p hp => ?_⟩
    refine z φ _ _ (Le.fresh hp) (s.laid hp) (.lst ?_ upd_same (s.fresh hp) ((r1.reps k.toNat).laid hp))
    rw [flat_len, Nat.mul_comm]
    exact line_ge hl
  · simp only [h, if_false] at z
    exact z.elim
theorem os_repT : OS X (binaryOp .Mult) gRepT := by
  refine ⟨_, op_repT, fun W σ φ H S x y vx vy Q s rx ry z => ?_⟩
  cases rx <;> try exact z.elim
  rename_i a vs xs z1 h1 r1
  cases ry <;> try exact z.elim
  rename_i k
  unfold gRepT at z
  by_cases h : xs ≠ [] ∧ 2 ≤ k ∧ k ≤ 1000 ∧ xs.length ≤ 1000
  · simp only [h, ne_eq, not_false_eq_true, and_self, if_true] at z
    have hl := r1.length
    refine ⟨a, k, vs, rfl, rfl, h1.sq, fun e => ?_, h.2.1, h.2.2.1, by omega, fun p hp => ?_⟩
    · subst e
      cases r1
      exact h.1 rfl
    · refine z φ _ _ (Le.fresh hp) (s.laid hp) (.tup ?_ (.inl ⟨.inl upd_same, s.fresh hp⟩) ((r1.reps k.toNat).laid hp))
      rw [flat_len]
      have hm : k.toNat * vs.length ≤ 1000 * 1000 := Nat.mul_le_mul (by omega) (by omega)
      exact line_ge (Nat.le_trans hm (by decide))
  · simp only [h, if_false] at z
    exact z.elim
theorem os_mul : OS X (binaryOp .Mult) gMul := by
  refine OS.or os_mulI (OS.or os_repL os_repT (g := fun x y S => match x, y with
    | .lst _, .int _ => gRepL x y S
    | .tup _, .int _ => gRepT x y S
    | _, _ => .bad) ?_) ?_
  · intro x y S
    cases x <;> cases y <;> first | exact .inl rfl | exact .inr rfl
  · intro x y S
    cases x <;> cases y <;> first | exact .inl rfl | exact .inr rfl

/-! ### == -/
mutual
def D.toP : D → PyData
  | .non => .none
  | .bl b => .bool b
  | .int i => .int i
  | .str x => .str x
  | .ty _ => .dict []
  | .tup xs => .tuple (D.toPs xs)
  | .lst xs => .list (D.toPs xs)
  | .rol xs => .list (D.toPs xs)
  | .box _ _ => .dict []
  | .ref _ _ => .dict []
def D.toPs : List D → List PyData
  | [] => []
  | x :: xs => x.toP :: D.toPs xs
end
mutual
theorem dp_of {K : PySem.W.Frag} {φ : Phi} {H : Hp} : ∀ {d : D} {v : V}, Rel K φ H d v → PyData.canLay0 d.toP = true → Dp K H v d.toP
  | _, _, .non, _ => .non
  | _, _, .bl b, _ => .bl b
  | _, _, .int i, _ => .int i
  | _, _, .str x, _ => .str x
  | _, _, .ty n, h => by simp [D.toP, PyData.canLay0] at h
  | _, _, .tup z f r, h => .tup f.sq (dps_of r (by simpa [D.toP, PyData.canLay0] using h))
  | _, _, .lst z f w r, h => .lst (SqL.of f) (dps_of r (by simpa [D.toP, PyData.canLay0] using h))
  | _, _, .rol z f r, h => .lst f.sq (dps_of r (by simpa [D.toP, PyData.canLay0] using h))
  | _, _, .box _ _ _ _, h => by simp [D.toP, PyData.canLay0] at h
  | _, _, .ref e, h => by simp [D.toP, PyData.canLay0] at h
theorem dps_of {K : PySem.W.Frag} {φ : Phi} {H : Hp} : ∀ {ds : List D} {vs : List V}, RelL K φ H ds vs → PyData.canLayAll0 (D.toPs ds) = true → DpAll K H vs (D.toPs ds)
  | _, _, .nil, _ => .nil
  | _, _, .cons r rs, h => by
    simp only [D.toPs, PyData.canLayAll0, Bool.and_eq_true] at h
    exact .cons (dp_of r h.1) (dps_of rs h.2)
end
def gEq : G2
  | .int i, .int j, S => .ok (.bl (decide (i = j))) S
  | .bl i, .bl j, S => .ok (.bl (decide (i = j))) S
  | .str i, .str j, S => .ok (.bl (decide (i = j))) S
  | .int _, .str _, S => .ok (.bl false) S
  | .str _, .int _, S => .ok (.bl false) S
  | .non, .int _, S => .ok (.bl false) S
  | .non, .str _, S => .ok (.bl false) S
  | .non, .bl _, S => .ok (.bl false) S
  | .int _, .non, S => .ok (.bl false) S
  | .str _, .non, S => .ok (.bl false) S
  | .bl _, .non, S => .ok (.bl false) S
  | .bl _, .str _, S => .ok (.bl false) S
  | .str _, .bl _, S => .ok (.bl false) S
  | x, y, S => if SeqAt.shaped x.toP && SeqAt.shaped y.toP then .ok (.bl (PyData.eqv x.toP y.toP)) S else .bad
def gNe : G2
  | .int i, .int j, S => .ok (.bl (!decide (i = j))) S
  | .bl i, .bl j, S => .ok (.bl (!decide (i = j))) S
  | .str i, .str j, S => .ok (.bl (!decide (i = j))) S
  | .int _, .str _, S => .ok (.bl true) S
  | .str _, .int _, S => .ok (.bl true) S
  | .non, .int _, S => .ok (.bl true) S
  | .non, .str _, S => .ok (.bl true) S
  | .non, .bl _, S => .ok (.bl true) S
  | .int _, .non, S => .ok (.bl true) S
  | .str _, .non, S => .ok (.bl true) S
  | .bl _, .non, S => .ok (.bl true) S
  | .bl _, .str _, S => .ok (.bl true) S
  | .str _, .bl _, S => .ok (.bl true) S
  | x, y, S => if SeqAt.shaped x.toP && SeqAt.shaped y.toP then .ok (.bl (!PyData.eqv x.toP y.toP)) S else .bad
theorem os_eqGen (hu : X.A.units + 64 < cLine) : OS X (compareOp .Eq) (fun x y S => if SeqAt.shaped x.toP && SeqAt.shaped y.toP then .ok (.bl (PyData.eqv x.toP y.toP)) S else .bad) := by
  refine ⟨_, op_eqD hu, fun W σ φ H S x y vx vy Q s rx ry z => ?_⟩
  by_cases h : (SeqAt.shaped x.toP && SeqAt.shaped y.toP) = true
  · simp only [h, if_true] at z
    rw [Bool.and_eq_true] at h
    exact ⟨_, _, dp_of rx (SeqAt.canLay_of_shaped h.1), dp_of ry (SeqAt.canLay_of_shaped h.2), h.1, h.2, z φ H _ (Le.refl _ _) s (.bl _)⟩
  · simp only [h] at z
    exact z.elim
theorem os_neGen (hu : X.A.units + 64 < cLine) : OS X (compareOp .NotEq) (fun x y S => if SeqAt.shaped x.toP && SeqAt.shaped y.toP then .ok (.bl (!PyData.eqv x.toP y.toP)) S else .bad) := by
  refine ⟨_, op_neD hu, fun W σ φ H S x y vx vy Q s rx ry z => ?_⟩
  by_cases h : (SeqAt.shaped x.toP && SeqAt.shaped y.toP) = true
  · simp only [h, if_true] at z
    rw [Bool.and_eq_true] at h
    exact ⟨_, _, dp_of rx (SeqAt.canLay_of_shaped h.1), dp_of ry (SeqAt.canLay_of_shaped h.2), h.1, h.2, z φ H _ (Le.refl _ _) s (.bl _)⟩
  · simp only [h] at z
    exact z.elim
def gEqS : G2
  | .int i, .int j, S => .ok (.bl (decide (i = j))) S
  | .bl i, .bl j, S => .ok (.bl (decide (i = j))) S
  | .str i, .str j, S => .ok (.bl (decide (i = j))) S
  | .int _, .str _, S => .ok (.bl false) S
  | .str _, .int _, S => .ok (.bl false) S
  | .non, .int _, S => .ok (.bl false) S
  | .non, .str _, S => .ok (.bl false) S
  | .non, .bl _, S => .ok (.bl false) S
  | .int _, .non, S => .ok (.bl false) S
  | .str _, .non, S => .ok (.bl false) S
  | .bl _, .non, S => .ok (.bl false) S
  | .bl _, .str _, S => .ok (.bl false) S
  | .str _, .bl _, S => .ok (.bl false) S
  | _, _, _ => .bad
theorem bl_to {K : PySem.W.Frag} {mg : Str → Option Value} {φ : Phi} {H : Hp} {S : Sto} {E : Value → Option Addr → Hp → Prop} {Q : VK} {b c : Bool} (s : RS K φ H S) (z : Ok K mg (Rel K) φ H E Q (.ok (.bl b) S)) (e : c = b) : Q (.bl c) H := by
  subst e
  exact z φ H _ (Le.refl _ _) s (.bl _)
theorem os_eqS : OS X (compareOp .Eq) gEqS := by
  refine ⟨_, op_eq, fun W σ φ H S x y vx vy Q s rx ry z => ?_⟩
  cases rx <;> cases ry <;> first
    | exact z.elim
    | exact ⟨rfl, bl_to s z (by simp)⟩
theorem os_neS : OS X (compareOp .NotEq) (fun x y S => (gEqS x y S).bind fun d S => match d with | .bl b => .ok (.bl (!b)) S | _ => .bad) := by
  refine ⟨_, op_ne, fun W σ φ H S x y vx vy Q s rx ry z => ?_⟩
  cases rx <;> cases ry <;> first
    | exact z.elim
    | exact ⟨rfl, bl_to s z (by simp)⟩
theorem os_eq (hu : X.A.units + 64 < cLine) : OS X (compareOp .Eq) gEq := by
  refine OS.or os_eqS (os_eqGen hu) ?_
  intro x y S
  cases x <;> cases y <;> first | exact .inl rfl | exact .inr rfl
theorem os_ne (hu : X.A.units + 64 < cLine) : OS X (compareOp .NotEq) gNe := by
  refine OS.or os_neS (os_neGen hu) ?_
  intro x y S
  cases x <;> cases y <;> first | exact .inl rfl | exact .inr rfl
/-- x is None -/
def D.isNon : D → Bool
  | .non => true
  | _ => false
theorem rel_non {K : PySem.W.Frag} {φ : Phi} {H : Hp} {d : D} {v : V} (r : Rel K φ H d v) : decide (v = .non) = d.isNon := by
  cases r <;> rfl
def gIsN : G2
  | x, .non, S => .ok (.bl x.isNon) S
  | _, _, _ => .bad
def gNotN : G2
  | x, .non, S => .ok (.bl (!x.isNon)) S
  | _, _, _ => .bad
theorem os_isN : OS X (compareOp .Is) gIsN := by
  refine ⟨_, op_isN, fun W σ φ H S x y vx vy Q s rx ry z => ?_⟩
  cases ry <;> try (simp only [gIsN] at z; exact z.elim)
  exact ⟨rfl, bl_to s (b := x.isNon) z (rel_non rx)⟩
theorem os_notN : OS X (compareOp .IsNot) gNotN := by
  refine ⟨_, op_notN, fun W σ φ H S x y vx vy Q s rx ry z => ?_⟩
  cases ry <;> try (simp only [gNotN] at z; exact z.elim)
  exact ⟨rfl, bl_to s (b := !x.isNon) z (by rw [rel_non rx])⟩
end

/-! ### unary -/
def gNeg : D → Sto → R D
  | .int i, S => .ok (.int (-i)) S
  | _, _ => .bad
theorem us_neg {X : Cx} : US X (unaryOp .USub) gNeg := by
  refine ⟨_, un_neg, fun W σ φ H S x vx Q s rx z => ?_⟩
  cases rx <;> try exact z.elim
  rename_i i
  exact ⟨i, rfl, z φ H _ (Le.refl _ _) s (.int _)⟩

/-! ### truth, tests -/
def tru : D → Sto → R Bool
  | .bl b, S => .ok b S
  | .int i, S => .ok (i != 0) S
  | .non, S => .ok false S
  | .tup xs, S => .ok (!xs.isEmpty) S
  | .lst xs, S => .ok (!xs.isEmpty) S
  | .rol xs, S => .ok (!xs.isEmpty) S
  | .box (.dK ks) _, S => .ok (!ks.isEmpty) S
  | .ref l i, S => match look S l i with
    | some (.lst xs) => .ok (!xs.isEmpty) S
    | some (.box (.dK ks) _) => .ok (!ks.isEmpty) S
    | _ => .bad
  | .str x, S => if x.length ≤ 16000000 then .ok ((x.length : Int) != 0) S else .bad
  | _, _ => .bad
theorem relL_empty {K : PySem.W.Frag} {φ : Phi} {H : Hp} {ds : List D} {vs : List V} (r : RelL K φ H ds vs) : vs.isEmpty = ds.isEmpty := by
  cases r <;> rfl
theorem zip_empty {α β : Type} {ks : List α} {vs : List β} (h : ks.length = vs.length) : (ks.zip vs).isEmpty = ks.isEmpty := by
  cases ks <;> cases vs <;> simp_all
theorem tru_of {X : Cx} {W : WX} {σ : L2.St} {φ : Phi} {H : Hp} {S : Sto} {d : D} {v : V} {Q : Bool → Hp → Prop} (s : RS X.K φ H S) (r : Rel X.K φ H d v) (z : Ok X.K X.mg eqB φ H (fun cls d H' => W cls d σ H') Q (tru d S)) : ∃ k, TruV X.K v H k ∧ Q k H := by
  have fin : ∀ b, Ok X.K X.mg eqB φ H (fun cls d H' => W cls d σ H') Q (.ok b S) → Q b H := fun b z => z φ H b (Le.refl _ _) s rfl
  cases r with
  | non => exact ⟨false, rfl, fin _ z⟩
  | bl b => exact ⟨b, rfl, fin _ z⟩
  | int i => exact ⟨_, rfl, fin _ z⟩
  | str x =>
    unfold tru at z
    by_cases h : x.length ≤ 16000000
    · simp only [h, if_true] at z
      exact ⟨_, ⟨line_ge h, rfl⟩, fin _ z⟩
    · simp only [h, if_false] at z
      exact z.elim
  | ty n => exact z.elim
  | tup zz f rr => exact ⟨_, .inr (.inl ⟨_, f.sq, by rw [relL_empty rr]⟩), fin _ z⟩
  | lst zz f w rr => exact ⟨_, .inl ⟨_, SqL.of f, by rw [relL_empty rr]⟩, fin _ z⟩
  | rol zz f rr => exact ⟨_, .inl ⟨_, f.sq, by rw [relL_empty rr]⟩, fin _ z⟩
  | @box a vs ds b at_ n w rr =>
    cases b with
    | dK ks =>
      exact ⟨_, .inr (.inr ⟨_, at_.2, by rw [zip_empty at_.1]⟩), fin _ z⟩
    | dT ks => exact z.elim
    | ins c fs => exact z.elim
  | ref e =>
    rename_i l i a
    unfold tru at z
    cases q : look S l i with
    | none => simp only [q] at z; exact z.elim
    | some o =>
      cases o with
      | dead => simp only [q] at z; exact z.elim
      | lst xs =>
        simp only [q] at z
        obtain ⟨vs, hv, _, rr⟩ := s.obj l i _ a q e
        exact ⟨_, .inl ⟨_, SqL.of hv, by rw [relL_empty rr]⟩, fin _ z⟩
      | box b xs =>
        cases b with
        | dK ks =>
          simp only [q] at z
          obtain ⟨vs, hv, rr⟩ := s.obj l i _ a q e
          exact ⟨_, .inr (.inr ⟨_, hv.2, by rw [zip_empty hv.1]⟩), fin _ z⟩
        | dT ks => simp only [q] at z; exact z.elim
        | ins c fs => simp only [q] at z; exact z.elim
def cT (a : C) : CT := fun ρ S => (a ρ S).bind fun d S => tru d S
def cTB (a : C) : CT := fun ρ S => (a ρ S).bind fun d S => match d with
  | .bl b => .ok b S
  | _ => .bad
section
variable {X : Cx} {W : WX} {pos : Pos} {a b c : Expr} {ca cb cc : C} {ta tb : CT} {rest : List Expr}
/-- a test by an expression's truth -/
theorem mt_e (ha : ME X W a ca) (he : ∀ whole, isTrue a X.env whole = (do let v ← whole; standAt a.pos; holding [v] (truthy v)) := by intro _; rfl) : MT X W a (cT ca) := by
  refine ⟨(pt_truth ha.pe he).imp fun σ H Q h => ?_⟩
  obtain ⟨ρ, φ, S, hE, hs, h⟩ := h
  exact ⟨ρ, φ, S, hE, hs, h.step fun d S1 φ1 H1 v q l s r z => tru_of s r z⟩
theorem rdT_of {t : CT} {c : C} {σ : L2.St} {H : Hp} {Q : Bool → Hp → Prop} (h : rdT X W (cTB c) σ H Q) : rdE X W c σ H (fun x H' => ∃ k, x = .bl k ∧ Q k H') := by
  obtain ⟨ρ, φ, S, hE, hs, h⟩ := h
  refine ⟨ρ, φ, S, hE, hs, h.step fun d S1 φ1 H1 v q l s r z => ?_⟩
  cases r <;> try exact z.elim
  rename_i b
  exact ⟨b, rfl, z φ1 H1 b (Le.refl _ _) s rfl⟩
theorem mt_cmp {op : CmpOp} {g : G2} (ho : OS X (compareOp op) g) (ha : ME X W a ca) (hb : ME X W b cb) (hm : behindInMarks op b = false) : MT X W (.Compare a [op] [b] pos) (cTB (cB g ca cb)) := by
  obtain ⟨r, hr, k⟩ := ho
  refine ⟨(pt_cmpR hr ha.pe hb.pe hm).imp fun σ H Q h => ?_⟩
  have h2 := rdT_of (t := cTB (cB g ca cb)) h
  exact bin_imp (ta := ca) (fun φ H S x y vx vy s rx ry z => k W σ φ H S x y vx vy _ s rx ry z) h2
def tAnd (a b : CT) : CT := fun ρ S => (a ρ S).bind fun k S => if k = true then b ρ S else .ok false S
def tOr (a b : CT) : CT := fun ρ S => (a ρ S).bind fun k S => if k = true then .ok true S else b ρ S
def tNot (a : CT) : CT := fun ρ S => (a ρ S).bind fun k S => .ok (!k) S
theorem mw_and1 (ha : MT X W a ta) : MW X W (.BoolOp .And [a] pos) ta := ⟨pw_and1 ha.pt⟩
theorem mw_or1 (ha : MT X W a ta) : MW X W (.BoolOp .Or [a] pos) ta := ⟨pw_or1 ha.pt⟩
theorem mw_and (ha : MT X W a ta) (hb : MW X W (.BoolOp .And (b :: rest) pos) tb) : MW X W (.BoolOp .And (a :: b :: rest) pos) (tAnd ta tb) := by
  refine ⟨(pw_and ha.pt hb.pw).imp fun σ H Q h => ?_⟩
  obtain ⟨ρ, φ, S, hE, hs, h⟩ := h
  refine ⟨ρ, φ, S, hE, hs, h.step fun k S1 φ1 H1 v q l s r z => ?_⟩
  cases r
  cases k with
  | true =>
    simp only [if_true] at z ⊢
    exact ⟨ρ, φ1, S1, hE.mono l, s, z⟩
  | false =>
    simp only [Bool.false_eq_true, if_false] at z ⊢
    exact z φ1 H1 false (Le.refl _ _) s rfl
theorem mw_or (ha : MT X W a ta) (hb : MW X W (.BoolOp .Or (b :: rest) pos) tb) : MW X W (.BoolOp .Or (a :: b :: rest) pos) (tOr ta tb) := by
  refine ⟨(pw_or ha.pt hb.pw).imp fun σ H Q h => ?_⟩
  obtain ⟨ρ, φ, S, hE, hs, h⟩ := h
  refine ⟨ρ, φ, S, hE, hs, h.step fun k S1 φ1 H1 v q l s r z => ?_⟩
  cases r
  cases k with
  | true =>
    simp only [if_true] at z ⊢
    exact z φ1 H1 true (Le.refl _ _) s rfl
  | false =>
    simp only [Bool.false_eq_true, if_false] at z ⊢
    exact ⟨ρ, φ1, S1, hE.mono l, s, z⟩
theorem mt_not (ha : MT X W a ta) : MT X W (.UnaryOp .Not a pos) (tNot ta) := by
  refine ⟨(pt_not ha.pt).imp fun σ H Q h => ?_⟩
  obtain ⟨ρ, φ, S, hE, hs, h⟩ := h
  refine ⟨ρ, φ, S, hE, hs, h.step fun k S1 φ1 H1 v q l s r z => ?_⟩
  cases r
  exact z φ1 H1 (!k) (Le.refl _ _) s rfl
/-! ### and, or, not as values -/
def cAnd (a b : C) : C := fun ρ S => (a ρ S).bind fun x S => (tru x S).bind fun k S => if k = true then b ρ S else .ok x S
def cOr (a b : C) : C := fun ρ S => (a ρ S).bind fun x S => (tru x S).bind fun k S => if k = true then .ok x S else b ρ S
def cNot (a : C) : C := fun ρ S => (a ρ S).bind fun x S => (tru x S).bind fun k S => .ok (.bl (!k)) S
theorem tru_keeps {d : D} {S S' : Sto} {b : Bool} (h : tru d S = .ok b S') : S' = S := by
  unfold tru at h
  repeat' split at h
  all_goals first
    | (injection h with h1 h2; exact h2.symm)
    | cases h
theorem Ok.tru {σ : L2.St} {φ : Phi} {H : Hp} {S : Sto} {d : D} {v : V} {Q : VK} {f : Bool → R D} (s : RS X.K φ H S) (r : Rel X.K φ H d v) (z : Ok X.K X.mg (Rel X.K) φ H (fun cls d H' => W cls d σ H') Q ((MP.tru d S).bind fun k _ => f k)) :
    ∃ k, TruV X.K v H k ∧ Ok X.K X.mg (Rel X.K) φ H (fun cls d H' => W cls d σ H') Q (f k) := by
  refine tru_of (W := W) (σ := σ) (Q := fun k H' => Ok X.K X.mg (Rel X.K) φ H (fun cls d H' => W cls d σ H') Q (f k)) s r ?_
  cases q : MP.tru d S with
  | ok k S' =>
    rw [q, R.bind_ok] at z
    intro φ' H' v l _ e
    cases e
    exact z
  | err x S' =>
    unfold MP.tru at q
    repeat' split at q
    all_goals cases q
  | bad => rw [q] at z; exact z.elim
theorem me_one {op} (h : ME X W a ca) : ME X W (.BoolOp op [a] pos) ca := ⟨pe_one h.pe⟩
theorem me_and (ha : ME X W a ca) (hb : ME X W (.BoolOp .And (b :: rest) pos) cb) : ME X W (.BoolOp .And (a :: b :: rest) pos) (cAnd ca cb) := by
  refine ⟨(pe_andT ha.pe hb.pe).imp fun σ H Q h => ?_⟩
  obtain ⟨ρ, φ, S, hE, hs, h⟩ := h
  refine ⟨ρ, φ, S, hE, hs, h.step fun d S1 φ1 H1 v q l s r z => ?_⟩
  have z' : Ok X.K X.mg (Rel X.K) φ1 H1 (fun cls d H' => W cls d σ H') Q ((tru d S1).bind fun k _ => if k = true then cb ρ S1 else .ok d S1) := by
    revert z
    cases e : tru d S1 with
    | ok k S2 => cases tru_keeps e; exact id
    | err x S2 => exact id
    | bad => exact id
  obtain ⟨k, hk, z2⟩ := Ok.tru s r z'
  refine ⟨k, hk, ?_⟩
  cases k with
  | true =>
    simp only [if_true] at z2 ⊢
    exact ⟨ρ, φ1, S1, hE.mono l, s, z2⟩
  | false =>
    simp only [Bool.false_eq_true, if_false] at z2 ⊢
    exact z2 φ1 H1 v (Le.refl _ _) s r
theorem me_or (ha : ME X W a ca) (hb : ME X W (.BoolOp .Or (b :: rest) pos) cb) : ME X W (.BoolOp .Or (a :: b :: rest) pos) (cOr ca cb) := by
  refine ⟨(pe_orT ha.pe hb.pe).imp fun σ H Q h => ?_⟩
  obtain ⟨ρ, φ, S, hE, hs, h⟩ := h
  refine ⟨ρ, φ, S, hE, hs, h.step fun d S1 φ1 H1 v q l s r z => ?_⟩
  have z' : Ok X.K X.mg (Rel X.K) φ1 H1 (fun cls d H' => W cls d σ H') Q ((tru d S1).bind fun k _ => if k = true then .ok d S1 else cb ρ S1) := by
    revert z
    cases e : tru d S1 with
    | ok k S2 => cases tru_keeps e; exact id
    | err x S2 => exact id
    | bad => exact id
  obtain ⟨k, hk, z2⟩ := Ok.tru s r z'
  refine ⟨k, hk, ?_⟩
  cases k with
  | true =>
    simp only [if_true] at z2 ⊢
    exact z2 φ1 H1 v (Le.refl _ _) s r
  | false =>
    simp only [Bool.false_eq_true, if_false] at z2 ⊢
    exact ⟨ρ, φ1, S1, hE.mono l, s, z2⟩
theorem me_not (ha : ME X W a ca) : ME X W (.UnaryOp .Not a pos) (cNot ca) := by
  refine ⟨(pe_notT ha.pe).imp fun σ H Q h => ?_⟩
  obtain ⟨ρ, φ, S, hE, hs, h⟩ := h
  refine ⟨ρ, φ, S, hE, hs, h.step fun d S1 φ1 H1 v q l s r z => ?_⟩
  have z' : Ok X.K X.mg (Rel X.K) φ1 H1 (fun cls d H' => W cls d σ H') Q ((tru d S1).bind fun k _ => .ok (.bl (!k)) S1) := by
    revert z
    cases e : tru d S1 with
    | ok k S2 => cases tru_keeps e; exact id
    | err x S2 => exact id
    | bad => exact id
  obtain ⟨k, hk, z2⟩ := Ok.tru s r z'
  exact ⟨k, hk, z2 φ1 H1 _ (Le.refl _ _) s (.bl _)⟩
/-! ### x if t else y -/
def cIf (t : CT) (a b : C) : C := fun ρ S => (t ρ S).bind fun k S => if k = true then a ρ S else b ρ S
theorem me_if {t : CT} (hc : MT X W c t) (ha : ME X W a ca) (hb : ME X W b cb) : ME X W (.IfExp c a b pos) (cIf t ca cb) := by
  refine ⟨(pe_ifExp hc.pt ha.pe hb.pe).imp fun σ H Q h => ?_⟩
  obtain ⟨ρ, φ, S, hE, hs, h⟩ := h
  refine ⟨ρ, φ, S, hE, hs, h.step fun k S1 φ1 H1 v q l s r z => ?_⟩
  cases r
  cases k with
  | true =>
    simp only [if_true] at z ⊢
    exact ⟨ρ, φ1, S1, hE.mono l, s, z⟩
  | false =>
    simp only [Bool.false_eq_true, if_false] at z ⊢
    exact ⟨ρ, φ1, S1, hE.mono l, s, z⟩
/-! ### a < b < c -/
def cChain (g g' : G2) (a b c : C) : C := fun ρ S => (a ρ S).bind fun x S => (b ρ S).bind fun y S => (g x y S).bind fun k S => match k with
  | .bl true => (c ρ S).bind fun z S => g' y z S
  | .bl false => .ok (.bl false) S
  | _ => .bad
end
end MP

/-! MP: statements, loops, calls, defs. -/
namespace MP
open PySem PySem.Spec PyProof.Rows L2

/-! ### statements -/
inductive RSt where
  | nx (ρ : Ro) (S : Sto)
  | ret (d : D) (S : Sto)
  | brk (ρ : Ro) (S : Sto)
  | cnt (ρ : Ro) (S : Sto)
  | err (x : Exn) (ρ : Ro) (S : Sto)
  | bad
abbrev CS := Ro → Sto → RSt
section
variable (K : PySem.W.Frag) (mg : Str → Option Value)
def OkS (φ : Phi) (H : Hp) (W : WX) (D' : Ends) : RSt → Prop
  | .nx ρ S => ∀ φ' H' σ', Le φ H φ' H' → RS K φ' H' S → RE K φ' H' ρ σ' → D'.nx σ' H'
  | .ret d S => ∀ φ' H' v, Le φ H φ' H' → RS K φ' H' S → Rel K φ' H' d v → D'.rt v H'
  | .brk ρ S => ∀ φ' H' σ', Le φ H φ' H' → RS K φ' H' S → RE K φ' H' ρ σ' → D'.bk σ' H'
  | .cnt ρ S => ∀ φ' H' σ', Le φ H φ' H' → RS K φ' H' S → RE K φ' H' ρ σ' → D'.ct σ' H'
  | .err x ρ S => ∀ φ' H' σ' cls dx, Le φ H φ' H' → RS K φ' H' S → RE K φ' H' ρ σ' → RX K mg φ' H' x cls dx → W cls dx σ' H'
  | .bad => False
end
theorem OkS.later {K : PySem.W.Frag} {mg : Str → Option Value} {φ φ' : Phi} {H H' : Hp} {W : WX} {D' : Ends} {r : RSt} (e : Le φ H φ' H') (h : OkS K mg φ H W D' r) : OkS K mg φ' H' W D' r := by
  cases r with
  | nx ρ S => exact fun p q s l => h p q s (e.trans l)
  | ret d S => exact fun p q s l => h p q s (e.trans l)
  | brk ρ S => exact fun p q s l => h p q s (e.trans l)
  | cnt ρ S => exact fun p q s l => h p q s (e.trans l)
  | err x ρ S => exact fun p q s c d l => h p q s c d (e.trans l)
  | bad => exact h
def rdS (X : Cx) (W : WX) (c : CS) : TS := fun D' σ H => ∃ ρ φ S, RE X.K φ H ρ σ ∧ RS X.K φ H S ∧ OkS X.K X.mg φ H W D' (c ρ S)
structure MS (X : Cx) (W : WX) (st : Stmt) (c : CS) : Prop where
  ps : PS X st (rdS X W c)
structure MSs (X : Cx) (W : WX) (st : List Stmt) (c : CS) : Prop where
  ps : PSs X st (rdS X W c)
theorem _root_.L2.PS.imp {X : Cx} {st : Stmt} {t u : TS} (h : PS X st t) (k : ∀ D σ H, u D σ H → t D σ H) : PS X st u := ⟨fun pins s σ H D I z => h.run pins s σ H D I (k D σ H z)⟩
theorem _root_.L2.PSs.imp {X : Cx} {st : List Stmt} {t u : TS} (h : PSs X st t) (k : ∀ D σ H, u D σ H → t D σ H) : PSs X st u := ⟨fun pins s σ H D I z => h.run pins s σ H D I (k D σ H z)⟩

/-- an expression's result, then a statement's end -/
def RSt.of {α : Type} (ρ : Ro) (r : R α) (f : α → Sto → RSt) : RSt := match r with
  | .ok a S => f a S
  | .err x S => .err x ρ S
  | .bad => .bad
@[simp] theorem RSt.of_ok {α : Type} (ρ : Ro) (a : α) (S : Sto) (f : α → Sto → RSt) : RSt.of ρ (.ok a S) f = f a S := (rfl)
@[simp] theorem RSt.of_err {α : Type} (ρ : Ro) (x : Exn) (S : Sto) (f : α → Sto → RSt) : RSt.of ρ (.err x S : R α) f = .err x ρ S := (rfl)
@[simp] theorem RSt.of_bad {α : Type} (ρ : Ro) (f : α → Sto → RSt) : RSt.of ρ (.bad : R α) f = .bad := (rfl)
/-- the next statement -/
def RSt.andThen (r : RSt) (f : Ro → Sto → RSt) : RSt := match r with
  | .nx ρ S => f ρ S
  | .ret d S => .ret d S
  | .brk ρ S => .brk ρ S
  | .cnt ρ S => .cnt ρ S
  | .err x ρ S => .err x ρ S
  | .bad => .bad
@[simp] theorem RSt.andThen_nx (ρ : Ro) (S : Sto) (f : Ro → Sto → RSt) : (RSt.nx ρ S).andThen f = f ρ S := (rfl)
@[simp] theorem RSt.andThen_ret (d : D) (S : Sto) (f : Ro → Sto → RSt) : (RSt.ret d S).andThen f = .ret d S := (rfl)
@[simp] theorem RSt.andThen_brk (ρ : Ro) (S : Sto) (f : Ro → Sto → RSt) : (RSt.brk ρ S).andThen f = .brk ρ S := (rfl)
@[simp] theorem RSt.andThen_cnt (ρ : Ro) (S : Sto) (f : Ro → Sto → RSt) : (RSt.cnt ρ S).andThen f = .cnt ρ S := (rfl)
@[simp] theorem RSt.andThen_err (x : Exn) (ρ : Ro) (S : Sto) (f : Ro → Sto → RSt) : (RSt.err x ρ S).andThen f = .err x ρ S := (rfl)
@[simp] theorem RSt.andThen_bad (f : Ro → Sto → RSt) : RSt.bad.andThen f = .bad := (rfl)

section
variable {X : Cx} {W : WX} {α β : Type} {rel : Phi → Hp → α → β → Prop} {φ : Phi} {H : Hp} {ρ : Ro} {σ : L2.St} {D' : Ends}
/-- a statement that begins with an expression -/
theorem OkS.from {r : R α} {f : α → Sto → RSt} {Q : β → Hp → Prop} (he : RE X.K φ H ρ σ) (h : OkS X.K X.mg φ H W D' (.of ρ r f)) (k : ∀ d S φ1 H1 v, r = .ok d S → Le φ H φ1 H1 → RS X.K φ1 H1 S → rel φ1 H1 d v → OkS X.K X.mg φ1 H1 W D' (f d S) → Q v H1) :
    Ok X.K X.mg rel φ H (fun cls d H' => W cls d σ H') Q r := by
  cases r with
  | ok d S => exact fun φ1 H1 v l s q => k d S φ1 H1 v rfl l s q (OkS.later l h)
  | err x S => exact fun φ1 H1 c d l s q => h φ1 H1 σ c d l s (he.mono l) q
  | bad => exact h
end

def cNext : CS := fun ρ S => .nx ρ S
def cSeq (a b : CS) : CS := fun ρ S => (a ρ S).andThen b
section
variable {X : Cx} {W : WX} {st : Stmt} {rest : List Stmt} {pos : Pos} {e : Expr} {ce : C} {a b : CS}
theorem mss_nil : MSs X W [] cNext := ⟨pss_nil.imp fun D σ H h => by
  obtain ⟨ρ, φ, S, he, hs, h⟩ := h
  exact h φ H σ (Le.refl _ _) hs he⟩
theorem mss_cons (h1 : MS X W st a) (h2 : MSs X W rest b) : MSs X W (st :: rest) (cSeq a b) := by
  refine ⟨(pss_cons h1.ps h2.ps).imp fun D σ H h => ?_⟩
  obtain ⟨ρ, φ, S, he, hs, h⟩ := h
  refine ⟨ρ, φ, S, he, hs, ?_⟩
  unfold cSeq at h
  cases q : a ρ S with
  | nx ρ1 S1 =>
    rw [q] at h
    exact fun φ1 H1 σ1 l s re => ⟨ρ1, φ1, S1, re, s, OkS.later l h⟩
  | ret d S1 => rw [q] at h; exact h
  | brk ρ1 S1 => rw [q] at h; exact h
  | cnt ρ1 S1 => rw [q] at h; exact h
  | err x ρ1 S1 => rw [q] at h; exact h
  | bad => rw [q] at h; exact h
theorem mss_one (h1 : MS X W st a) : MSs X W [st] a := ⟨pss_one h1.ps⟩
theorem ms_pass : MS X W (.Pass pos) cNext := ⟨ps_pass.imp fun D σ H h => by
  obtain ⟨ρ, φ, S, he, hs, h⟩ := h
  exact h φ H σ (Le.refl _ _) hs he⟩
theorem ms_doc {x j pos'} : MS X W (.Expr (.Constant (.str x) j pos) pos') cNext := ⟨ps_doc.imp fun D σ H h => by
  obtain ⟨ρ, φ, S, he, hs, h⟩ := h
  exact h φ H σ (Le.refl _ _) hs he⟩
def cBrk : CS := fun ρ S => .brk ρ S
def cCnt : CS := fun ρ S => .cnt ρ S
theorem ms_brk : MS X W (.Break pos) cBrk := ⟨ps_break.imp fun D σ H h => by
  obtain ⟨ρ, φ, S, he, hs, h⟩ := h
  exact h φ H σ (Le.refl _ _) hs he⟩
theorem ms_cnt : MS X W (.Continue pos) cCnt := ⟨ps_continue.imp fun D σ H h => by
  obtain ⟨ρ, φ, S, he, hs, h⟩ := h
  exact h φ H σ (Le.refl _ _) hs he⟩
/-- an expression for what it does -/
def cDrop (c : C) : CS := fun ρ S => .of ρ (c ρ S) fun _ S => .nx ρ S
theorem ms_expr (he : ME X W e ce) (hs : swapsWith e none pos.line X.env = pure false := by rfl) : MS X W (.Expr e pos) (cDrop ce) := by
  refine ⟨(ps_expr he.pe hs).imp fun D σ H h => ?_⟩
  obtain ⟨ρ, φ, S, he, hs, h⟩ := h
  exact ⟨ρ, φ, S, he, hs, OkS.from he h fun d S1 φ1 H1 v q l s r z => z φ1 H1 σ (Le.refl _ _) s (he.mono l)⟩
def cRet (c : C) : CS := fun ρ S => .of ρ (c ρ S) fun d S => .ret d S
theorem ms_ret (he : ME X W e ce) : MS X W (.Return (some e) pos) (cRet ce) := by
  refine ⟨(ps_ret he.pe).imp fun D σ H h => ?_⟩
  obtain ⟨ρ, φ, S, he, hs, h⟩ := h
  exact ⟨ρ, φ, S, he, hs, OkS.from he h fun d S1 φ1 H1 v q l s r z => z φ1 H1 v (Le.refl _ _) s r⟩
def cRetN : CS := fun ρ S => .ret .non S
theorem ms_retN : MS X W (.Return none pos) cRetN := ⟨ps_retN.imp fun D σ H h => by
  obtain ⟨ρ, φ, S, he, hs, h⟩ := h
  exact h φ H .non (Le.refl _ _) hs .non⟩
def cIfS (t : CT) (a b : CS) : CS := fun ρ S => .of ρ (t ρ S) fun k S => if k = true then a ρ S else b ρ S
theorem ms_if {t : CT} {sa sb : List Stmt} (hc : MT X W e t) (ha : MSs X W sa a) (hb : MSs X W sb b) : MS X W (.If e sa sb pos) (cIfS t a b) := by
  refine ⟨(ps_if hc.pt ha.ps hb.ps).imp fun D σ H h => ?_⟩
  obtain ⟨ρ, φ, S, he, hs, h⟩ := h
  refine ⟨ρ, φ, S, he, hs, OkS.from he h fun k S1 φ1 H1 v q l s r z => ?_⟩
  cases r
  cases k with
  | true =>
    simp only [if_true] at z ⊢
    exact ⟨ρ, φ1, S1, he.mono l, s, z⟩
  | false =>
    simp only [Bool.false_eq_true, if_false] at z ⊢
    exact ⟨ρ, φ1, S1, he.mono l, s, z⟩
end

/-! ### targets -/
abbrev Tg := D → Ro → Option Ro
/-- only the slots sl are stored -/
def Only' (sl : List Nat) (σ σ' : L2.St) : Prop := ∀ vs : List Nat, (∀ i ∈ sl, i ∈ vs) → wipe σ' vs = wipe σ vs
structure GS (K : PySem.W.Frag) (g : TG) (t : Tg) (sl : List Nat) : Prop where
  go : ∀ φ H d v ρ ρ' σ Q, Rel K φ H d v → RE K φ H ρ σ → t d ρ = some ρ' → (∀ σ', RE K φ H ρ' σ' → Only' sl σ σ' → Q σ' H) → g v σ H Q
structure MG (X : Cx) (tg : Expr) (t : Tg) (sl : List Nat) : Prop where
  pg : ∃ g, PG X tg g ∧ GS X.K g t sl
def tgN (i : Nat) : Tg := fun d ρ => some (ρ.set i (some d))
def tgs : List Tg → List D → Ro → Option Ro
  | [], [], ρ => some ρ
  | t :: ts, d :: ds, ρ => match t d ρ with
    | some ρ' => tgs ts ds ρ'
    | none => none
  | _, _, _ => none
def tgT (ts : List Tg) : Tg := fun d ρ => match d with
  | .tup ds => tgs ts ds ρ
  | _ => none
structure GSs (K : PySem.W.Frag) (g : TGs) (ts : List Tg) (sl : List Nat) : Prop where
  go : ∀ φ H ds vs ρ ρ' σ Q, RelL K φ H ds vs → RE K φ H ρ σ → tgs ts ds ρ = some ρ' → (∀ σ', RE K φ H ρ' σ' → Only' sl σ σ' → Q σ' H) → g vs σ H Q
structure MGs (X : Cx) (es : List Expr) (ts : List Tg) (sl : List Nat) : Prop where
  pg : ∃ g, PGs X es g ∧ GSs X.K g ts sl
theorem tgs_len : ∀ {ts : List Tg} {ds : List D} {ρ ρ' : Ro}, tgs ts ds ρ = some ρ' → ds.length = ts.length
  | [], [], _, _, _ => rfl
  | t :: ts, d :: ds, ρ, ρ', h => by
    unfold tgs at h
    cases q : t d ρ with
    | none => simp only [q] at h; cases h
    | some r =>
      simp only [q] at h
      simp [tgs_len h]
  | [], _ :: _, _, _, h => by simp [tgs] at h
  | _ :: _, [], _, _, h => by simp [tgs] at h
theorem wipe_set : ∀ (vs : List Nat) (σ : L2.St) (i : Nat) (x : Option V), i ∈ vs → wipe (σ.set i x) vs = wipe σ vs := by
  intro vs
  induction vs with
  | nil => intro σ i x h; cases h
  | cons j vs ih =>
    intro σ i x h
    show (wipe (σ.set i x) vs).set j none = (wipe σ vs).set j none
    by_cases hi : i ∈ vs
    · rw [ih σ i x hi]
    · have e : i = j := by
        rcases List.mem_cons.mp h with e | e
        · exact e
        · exact absurd e hi
      subst e
      have out : ∀ (ws : List Nat) (σ : L2.St), i ∉ ws → wipe (σ.set i x) ws = (wipe σ ws).set i x := by
        intro ws
        induction ws with
        | nil => intro σ _; rfl
        | cons k ws ih2 =>
          intro σ hw
          show (wipe (σ.set i x) ws).set k none = ((wipe σ ws).set k none).set i x
          rw [ih2 σ (fun z => hw (List.mem_cons_of_mem _ z)), List.set_comm]
          intro z
          exact hw (by rw [z]; exact List.mem_cons_self)
      rw [out vs σ hi, List.set_set]
theorem wipe_idem (σ : L2.St) : ∀ vs : List Nat, wipe (wipe σ vs) vs = wipe σ vs := by
  have h : ∀ (ws vs : List Nat) (σ : L2.St), (∀ i ∈ ws, i ∈ vs) → wipe (wipe σ ws) vs = wipe σ vs := by
    intro ws
    induction ws with
    | nil => intro vs σ _; rfl
    | cons i ws ih =>
      intro vs σ hw
      show wipe ((wipe σ ws).set i none) vs = wipe σ vs
      rw [wipe_set vs _ i none (hw i List.mem_cons_self)]
      exact ih vs σ fun j hj => hw j (List.mem_cons_of_mem _ hj)
  exact fun vs => h vs vs σ fun _ z => z
section
variable {X : Cx} {pos : Pos}
theorem gs_name {K : PySem.W.Frag} (i : Nat) : GS K (gName i) (tgN i) [i] := ⟨fun φ H d v ρ ρ' σ Q r re e k => by
  cases e
  exact k _ (re.set r i) fun vs h => wipe_set vs σ i _ (h i List.mem_cons_self)⟩
theorem mg_name (i : Nat) {x : Str} (hN : X.N.Nodup) (hi : X.N[i]? = some x) (hx : Loc X.env.scope x) (hf : X.fn x = true ∨ X.env.scope.names.lookup x = some .local := by first | exact .inl rfl | exact .inr rfl | assumption) : MG X (.Name x pos) (tgN i) [i] :=
  ⟨gName i, pg_name hN hi hx hf, gs_name i⟩
theorem gss_nil {K : PySem.W.Frag} : GSs K gNil [] [] := ⟨fun φ H ds vs ρ ρ' σ Q r re e k => by
  cases r with
  | nil =>
    simp [tgs] at e
    subst e
    exact ⟨rfl, k σ re fun _ _ => rfl⟩
  | cons _ _ => simp [tgs] at e⟩
theorem gss_cons {K : PySem.W.Frag} {g : TG} {gs : TGs} {t : Tg} {ts : List Tg} {s1 s2 : List Nat} (h1 : GS K g t s1) (h2 : GSs K gs ts s2) : GSs K (gCons g gs) (t :: ts) (s1 ++ s2) := ⟨fun φ H ds vs ρ ρ' σ Q r re e k => by
  cases r with
  | nil => simp [tgs] at e
  | cons r rs =>
    rename_i d v ds vs
    unfold tgs at e
    cases q : t d ρ with
    | none => simp only [q] at e; cases e
    | some ρ1 =>
      simp only [q] at e
      exact ⟨v, vs, rfl, h1.go φ H d v ρ ρ1 σ _ r re q fun σ1 re1 o1 => h2.go φ H ds vs ρ1 ρ' σ1 _ rs re1 e fun σ2 re2 o2 => k σ2 re2 fun ws hw =>
        (o2 ws fun i hi => hw i (List.mem_append_right _ hi)).trans (o1 ws fun i hi => hw i (List.mem_append_left _ hi))⟩⟩
theorem mgs_nil : MGs X [] [] [] := ⟨gNil, pgs_nil, gss_nil⟩
theorem mgs_cons {e : Expr} {es : List Expr} {t : Tg} {ts : List Tg} {s1 s2 : List Nat} (h1 : MG X e t s1) (h2 : MGs X es ts s2)
    (hs : (assignEach (e :: es) X.env).map (·.2) = assign e X.env :: (assignEach es X.env).map (·.2) := by rfl) : MGs X (e :: es) (t :: ts) (s1 ++ s2) := by
  obtain ⟨g, p1, q1⟩ := h1.pg
  obtain ⟨gs, p2, q2⟩ := h2.pg
  exact ⟨_, pgs_cons p1 p2 hs, gss_cons q1 q2⟩
theorem mg_tup {es : List Expr} {k : Nat} {ts : List Tg} {sl : List Nat} (hc : X.calm = true) (h : MGs X es ts sl) (hl : (assignEach es X.env).length = ts.length := by rfl) (hst : (assignEach es X.env).findIdx? (·.1) = none := by rfl) : MG X (.Tuple es k pos) (tgT ts) sl := by
  obtain ⟨g, p, q⟩ := h.pg
  refine ⟨_, pg_tup (n := ts.length) hc p hl hst, ⟨fun φ H d v ρ ρ' σ Q r re e k => ?_⟩⟩
  cases r <;> try (simp [tgT] at e; done)
  rename_i a vs ds z f rs
  have e : tgs ts ds ρ = some ρ' := e
  exact ⟨a, vs, rfl, f.sq, by rw [← rs.length]; exact tgs_len e, q.go φ H ds vs ρ ρ' σ Q rs re e k⟩
end
def tgR (t : Tg) (d : D) (ρ : Ro) (f : Ro → RSt) : RSt := match t d ρ with
  | some ρ' => f ρ'
  | none => .bad
@[simp] theorem tgR_name (i : Nat) (d : D) (ρ : Ro) (f : Ro → RSt) : tgR (tgN i) d ρ f = f (ρ.set i (some d)) := (rfl)
/-! ### assignments -/
def cAsg (t : Tg) (c : C) : CS := fun ρ S => .of ρ (c ρ S) fun d S => tgR t d ρ fun ρ' => .nx ρ' S
section
variable {X : Cx} {W : WX} {pos : Pos} {e : Expr} {ce : C}
theorem asg_imp {te : TE} {g : TG} {t : Tg} {sl : List Nat} (hg : GS X.K g t sl) {D' : Ends} {σ : L2.St} {H : Hp} (h : rdS X W (cAsg t ce) D' σ H) : tAsg (rdE X W ce) g D' σ H := by
  obtain ⟨ρ, φ, S, he, hs, h⟩ := h
  refine ⟨ρ, φ, S, he, hs, OkS.from he h fun d S1 φ1 H1 v q l s r z => ?_⟩
  unfold tgR at z
  cases q2 : t d ρ with
  | none => simp only [q2] at z; exact z.elim
  | some ρ' =>
    simp only [q2] at z
    exact hg.go φ1 H1 d v ρ ρ' σ _ r (he.mono l) q2 fun σ' re _ => z φ1 H1 σ' (Le.refl _ _) s re
theorem ms_set (i : Nat) {x : Str} {pos' : Pos} (hN : X.N.Nodup) (hi : X.N[i]? = some x) (hx : Loc X.env.scope x) (he : ME X W e ce) (hs : swapsWith e (some (.Name x pos')) pos.line X.env = pure false := by rfl) (hf : X.fn x = true ∨ X.env.scope.names.lookup x = some .local := by first | exact .inl rfl | exact .inr rfl | assumption) :
    MS X W (.Assign [.Name x pos'] e pos) (cAsg (tgN i) ce) :=
  ⟨(ps_set hN hi hx he.pe hs hf).imp fun D σ H h => asg_imp (te := rdE X W ce) (gs_name i) h⟩
theorem ms_asg {tg : Expr} {t : Tg} {sl : List Nat} (he : ME X W e ce) (hg : MG X tg t sl) (hs : swapsWithSole [tg] e pos.line X.env = pure false := by rfl) (hw : swappedStores [tg] e X.env = pure none := by rfl)
    (h1 : (assignEach [tg] X.env).map (·.2) = [assign tg X.env] := by rfl) : MS X W (.Assign [tg] e pos) (cAsg t ce) := by
  obtain ⟨g, p, q⟩ := hg.pg
  exact ⟨(ps_asg he.pe p hs hw h1).imp fun D σ H h => asg_imp (te := rdE X W ce) q h⟩
/-- a, b = x, y of plain locals -/
def cPar (is : List Nat) (c : CA) : CS := fun ρ S => .of ρ (c ρ S) fun ds S => match tgs (is.map tgN) ds ρ with
  | some ρ' => .nx ρ' S
  | none => .bad
theorem ms_par {i j : Nat} {x y : Str} {a b : Expr} {ca : CA} {px py pt : Pos} {kt k2 pt2} (hc : X.calm = true) (hN : X.N.Nodup) (hi : X.N[i]? = some x) (hj : X.N[j]? = some y) (hij : i ≠ j)
    (hx : X.env.scope.names.lookup x = some .local) (hy : X.env.scope.names.lookup y = some .local) (ha : MA X W [a, b] ca)
    (hw : swappedStores [.Tuple [.Name x px, .Name y py] kt pt] (.Tuple [a, b] k2 pt2) X.env = pure (some [x, y]))
    (hs : swapsWithSole [.Tuple [.Name x px, .Name y py] kt pt] (.Tuple [a, b] k2 pt2) pos.line X.env = pure false := by rfl) :
    MS X W (.Assign [.Tuple [.Name x px, .Name y py] kt pt] (.Tuple [a, b] k2 pt2) pos) (cPar [i, j] ca) := by
  refine ⟨(ps_par hc hN hi hj hij hx hy ha.pa hw hs).imp fun D σ H h => ?_⟩
  obtain ⟨ρ, φ, S, he, hs, h⟩ := h
  refine ⟨ρ, φ, S, he, hs, OkS.from he h fun ds S1 φ1 H1 vs q l s r z => ?_⟩
  cases r with
  | nil => exact z.elim
  | cons r1 r =>
    cases r with
    | nil => exact z.elim
    | cons r2 r =>
      cases r with
      | cons _ _ => exact z.elim
      | nil => exact ⟨_, _, rfl, z φ1 H1 _ (Le.refl _ _) s (((he.mono l).set r1 i).set r2 j)⟩
theorem ms_par3 {i j k : Nat} {x y z : Str} {a b c : Expr} {ca : CA} {px py pz pt : Pos} {kt k2 pt2} (hc : X.calm = true) (hN : X.N.Nodup) (hi : X.N[i]? = some x) (hj : X.N[j]? = some y) (hk : X.N[k]? = some z) (hij : i ≠ j) (hik : i ≠ k) (hjk : j ≠ k)
    (h : PS X (.Assign [.Tuple [.Name x px, .Name y py, .Name z pz] kt pt] (.Tuple [a, b, c] k2 pt2) pos) (tPar3 i j k (rdA X W ca))) :
    MS X W (.Assign [.Tuple [.Name x px, .Name y py, .Name z pz] kt pt] (.Tuple [a, b, c] k2 pt2) pos) (cPar [i, j, k] ca) := by
  refine ⟨h.imp fun D σ H h => ?_⟩
  obtain ⟨ρ, φ, S, he, hs, h⟩ := h
  refine ⟨ρ, φ, S, he, hs, OkS.from he h fun ds S1 φ1 H1 vs q l s r z => ?_⟩
  cases r with
  | nil => exact z.elim
  | cons r1 r =>
    cases r with
    | nil => exact z.elim
    | cons r2 r =>
      cases r with
      | nil => exact z.elim
      | cons r3 r =>
        cases r with
        | cons _ _ => exact z.elim
        | nil => exact ⟨_, _, _, rfl, z φ1 H1 _ (Le.refl _ _) s ((((he.mono l).set r1 i).set r2 j).set r3 k)⟩
/-- x op= e -/
def cAug (i : Nat) (g : G2) (c : C) : CS := fun ρ S => match ρ[i]? with
  | some (some x) => .of ρ (c ρ S) fun y S => .of ρ (g x y S) fun z S => .nx (ρ.set i (some z)) S
  | _ => .bad
theorem ms_aug (i : Nat) {x : Str} {op : Operator} {g : G2} {pos' : Pos} (ho : OS X (inplaceOp op) g) (hN : X.N.Nodup) (hi : X.N[i]? = some x) (hx : Loc X.env.scope x) (he : ME X W e ce) (hf : X.fn x = true ∨ X.env.scope.names.lookup x = some .local := by first | exact .inl rfl | exact .inr rfl | assumption) :
    MS X W (.AugAssign (.Name x pos') op e pos) (cAug i g ce) := by
  obtain ⟨r, hr, k⟩ := ho
  refine ⟨(ps_aug (ti := r) hN hi hx he.pe (fun pins s σ H x y v u Q I rx ry h => hr pins s σ H x y v u Q I rx ry h) hf).imp fun D σ H h => ?_⟩
  obtain ⟨ρ, φ, S, he, hs, h⟩ := h
  unfold cAug at h
  split at h
  · rename_i d q
    obtain ⟨v, e1, rv⟩ := he.2 i d q
    refine ⟨v, e1, ρ, φ, S, he, hs, OkS.from he h fun y S1 φ1 H1 vy q2 l s ry z => ?_⟩
    refine k W σ φ1 H1 S1 d y v vy _ s (rv.mono l) ry (OkS.from (he.mono l) z fun w S2 φ2 H2 vw q3 l2 s2 rw' z2 => ?_)
    exact z2 φ2 H2 _ (Le.refl _ _) s2 (((he.mono l).mono l2).set rw' i)
  · exact h.elim
end
end MP

/-! MP: what is walked, for, while, comprehensions. -/
namespace MP
open PySem PySem.Spec PyProof.Rows L2

/-! ### what is walked -/
structure IR (K : PySem.W.Frag) (φ : Phi) (H : Hp) (ds : List D) (J : It) : Prop where
  go : ∀ φ' H', Le φ H φ' H' → ∀ i, i < ds.length → J.go i H'
  yld : ∀ φ' H' S', Le φ H φ' H' → RS K φ' H' S' → ∀ i d x H'', ds[i]? = some d → J.yld i H' x H'' → Le φ' H' φ' H'' ∧ RS K φ' H'' S' ∧ Rel K φ' H'' d x
  stop : ∀ φ' H', Le φ H φ' H' → J.stop ds.length H'
abbrev CI := Ro → Sto → R (List D)
def rdI (X : Cx) (W : WX) (c : CI) : TI := fun σ H Q => ∃ ρ φ S, RE X.K φ H ρ σ ∧ RS X.K φ H S ∧ Ok X.K X.mg (IR X.K) φ H (fun cls d H' => W cls d σ H') Q (c ρ S)
structure MI (X : Cx) (W : WX) (tg iter : Expr) (c : CI) : Prop where
  pi : PI X tg iter (rdI X W c)
theorem _root_.L2.PI.imp {X : Cx} {tg iter : Expr} {t u : TI} (h : PI X tg iter t) (k : ∀ σ H Q, u σ H Q → t σ H Q) : PI X tg iter u := ⟨fun pins s σ H Q I z => h.run pins s σ H Q I (k σ H Q z)⟩
section
variable {K : PySem.W.Frag} {φ : Phi} {H : Hp} {a : Addr} {vs : List V} {ds : List D} {X : Cx}
/-- a list that is never changed any more is the same later -/
theorem FR.later {φ' : Phi} {H' : Hp} (e : Le φ H φ' H') (h : FR K φ H a vs) : FR K φ' H' a vs := by
  rcases h with ⟨f, w⟩ | f
  · exact .inl (e.rd f w)
  · exact .inr f
theorem FT.later {φ' : Phi} {H' : Hp} (e : Le φ H φ' H') (h : FT K φ H a vs) : FT K φ' H' a vs := by
  rcases h with ⟨f, w⟩ | f
  · exact .inl (e.rd f w)
  · exact .inr f
theorem ir_list (h : FR K φ H a vs) (r : RelL K φ H ds vs) : IR K φ H ds (Itl K a) where
  go := fun φ' H' e i hi => by
    obtain ⟨x, hx⟩ : ∃ x, vs[i]? = some x := ⟨vs[i]'(by rw [← r.length]; exact hi), by simp⟩
    exact ⟨vs, x, (h.later e).sq, hx⟩
  yld := fun φ' H' S' e s i d x H'' hd y => by
    obtain ⟨e1, y⟩ := y
    subst e1
    obtain ⟨v, hv, rv⟩ := r.get hd
    have := y vs (h.later e).sq
    rw [hv] at this
    cases this
    exact ⟨Le.refl _ _, s, rv.mono e⟩
  stop := fun φ' H' e => ⟨vs, (h.later e).sq, by rw [r.length]; exact Nat.le_refl _⟩
theorem ir_tup (h : FT K φ H a vs) (r : RelL K φ H ds vs) : IR K φ H ds (Itt K a) where
  go := fun φ' H' e i hi => by
    obtain ⟨x, hx⟩ : ∃ x, vs[i]? = some x := ⟨vs[i]'(by rw [← r.length]; exact hi), by simp⟩
    exact ⟨vs, x, (h.later e).sq, hx⟩
  yld := fun φ' H' S' e s i d x H'' hd y => by
    obtain ⟨e1, y⟩ := y
    subst e1
    obtain ⟨v, hv, rv⟩ := r.get hd
    have := y vs (h.later e).sq
    rw [hv] at this
    cases this
    exact ⟨Le.refl _ _, s, rv.mono e⟩
  stop := fun φ' H' e => ⟨vs, (h.later e).sq, by rw [r.length]; exact Nat.le_refl _⟩
def rngD (lo : Int) (n : Nat) : List D := (List.range n).map fun (k : Nat) => D.int (lo + (k : Int))
theorem rngD_length (lo : Int) (n : Nat) : (rngD lo n).length = n := by simp [rngD]
theorem ir_rng (lo : Int) (n : Nat) : IR K φ H (rngD lo n) (Itr lo n) where
  go := fun φ' H' e i hi => by rw [rngD_length] at hi; exact hi
  yld := fun φ' H' S' e s i d x H'' hd y => by
    obtain ⟨e1, e2⟩ := y
    subst e1 e2
    have : d = .int (lo + (i : Int)) := by
      have hi := (List.getElem?_eq_some_iff.mp hd).1
      rw [rngD_length] at hi
      simp [rngD, List.getElem?_range hi] at hd
      exact hd.symm
    subst this
    exact ⟨Le.refl _ _, s, .int _⟩
  stop := fun φ' H' e => by rw [rngD_length]; exact Nat.le_refl _
end
section
variable {X : Cx} {tg : Expr}
/-- a list or a tuple -/
theorem pi_either {l : Expr} {tl : TE} (hl : PE X l tl) : PI X tg l (fun σ H R => tl σ H fun x H1 => ∃ a, x = .ref a ∧ (((∃ xs, SqL X.K H1 a xs) ∧ R (Itl X.K a) H1) ∨ ((∃ xs, SqT X.K H1 a xs) ∧ R (Itt X.K a) H1))) := by
  constructor
  intro pins s σ H R I h
  refine thn (hl.run pins s σ H _ I h) ?_
  rintro v s1 ⟨x, H1, I1, r1, a, rfl, q⟩
  cases r1
  have fp : ∀ b, b ∈ [s1.heap.objs.size] → FpOk X pins H1 b := by
    intro b hb
    have e : b = s1.heap.objs.size := by simpa using hb
    rw [e]
    exact I1.fpOk (Nat.le_refl _) I1.fresh
  rcases q with ⟨⟨xs, hq⟩, q⟩ | ⟨⟨xs, hq⟩, q⟩
  · obtain ⟨its, rv, p, hz⟩ := I1.list hq
    refine wpAny_pyIter_list p.isList ?_
    have J1 := I1.kept (h' := s1.heap.push { cls := .type "list_iterator", data := .fields #[.ref a, rawInt 0] }) (t' := s1.toks) fun b o e => Heap.get?_push_of_some _ e
    exact ⟨_, _, _, _, H1, rfl, J1, turn_list a _, ⟨_, Heap.get?_push_size _ rfl, rfl, rfl⟩, fp, q⟩
  · obtain ⟨its, rv, p, hz⟩ := I1.tuple hq
    have p' : s1.heap.IsTuple a its.toArray := p
    refine wpAny_pyIter_tuple p' ?_
    have J1 := I1.kept (h' := s1.heap.push { cls := .type "tuple_iterator", data := .fields #[.ref a, rawInt 0] }) (t' := s1.toks) fun b o e => Heap.get?_push_of_some _ e
    exact ⟨_, _, _, _, H1, rfl, J1, turn_tuple a _, ⟨_, Heap.get?_push_size _ rfl, rfl, rfl⟩, fp, q⟩
end
/-- the items of a list or tuple -/
def ciSeq (c : C) : CI := fun ρ S => (c ρ S).bind fun d S => match d with
  | .tup ds => .ok ds S
  | .lst ds => .ok ds S
  | .rol ds => .ok ds S
  | _ => .bad
def ciR1 (a : CA) : CI := fun ρ S => (a ρ S).bind fun ds S => match ds with
  | [.int n] => if -16000000 ≤ n ∧ n ≤ 16000000 then .ok (rngD 0 n.toNat) S else .bad
  | _ => .bad
def ciR2 (a : CA) : CI := fun ρ S => (a ρ S).bind fun ds S => match ds with
  | [.int m, .int n] => if -16000000 ≤ m ∧ m ≤ 16000000 ∧ -16000000 ≤ n ∧ n ≤ 16000000 then .ok (rngD m (n - m).toNat) S else .bad
  | _ => .bad
section
variable {X : Cx} {W : WX} {tg e a b : Expr} {ce : C} {ca : CA} {p pos : Pos}
theorem mi_seq (he : ME X W e ce) : MI X W tg e (ciSeq ce) := by
  refine ⟨(pi_either he.pe).imp fun σ H Q h => ?_⟩
  obtain ⟨ρ, φ, S, hE, hs, h⟩ := h
  refine ⟨ρ, φ, S, hE, hs, h.step fun d S1 φ1 H1 v q l s r z => ?_⟩
  cases r <;> try exact z.elim
  · rename_i a vs ds zz f rr
    exact ⟨a, rfl, .inr ⟨⟨vs, f.sq⟩, z φ1 H1 _ (Le.refl _ _) s (ir_tup f rr)⟩⟩
  · rename_i a vs ds zz f w rr
    exact ⟨a, rfl, .inl ⟨⟨vs, SqL.of f⟩, z φ1 H1 _ (Le.refl _ _) s (ir_list (.inl ⟨.inl f, w⟩) rr)⟩⟩
  · rename_i a vs ds zz f rr
    exact ⟨a, rfl, .inl ⟨⟨vs, f.sq⟩, z φ1 H1 _ (Le.refl _ _) s (ir_list f rr)⟩⟩
theorem p62 : (16000000 : Int) < 2 ^ 62 := by decide
theorem mi_r1 (hg : Gl X "range") (hm : X.mg "range" = none) (ha : MA X W [a] ca) (hs : starEach [a] X.env = [(false, eval a X.env)] := by rfl) : MI X W tg (.Call (.Name "range" p) [a] [] pos) (ciR1 ca) := by
  refine ⟨(pi_range1 hg hm ha.pa hs).imp fun σ H Q h => ?_⟩
  obtain ⟨ρ, φ, S, hE, hs, h⟩ := h
  refine ⟨ρ, φ, S, hE, hs, h.step fun ds S1 φ1 H1 vs q l s r z => ?_⟩
  have p62 := p62
  cases r with
  | nil => exact z.elim
  | cons r1 r =>
    cases r with
    | cons _ _ => cases r1 <;> exact z.elim
    | nil =>
      cases r1 <;> try exact z.elim
      rename_i n
      by_cases hn : -16000000 ≤ n ∧ n ≤ 16000000
      · simp only [hn, and_self, if_true] at z
        exact ⟨n, rfl, by omega, by omega, z φ1 H1 _ (Le.refl _ _) s (ir_rng 0 n.toNat)⟩
      · simp only [hn, if_false] at z
        exact z.elim
theorem mi_r2 (hg : Gl X "range") (hm : X.mg "range" = none) (ha : MA X W [a, b] ca) (hs : starEach [a, b] X.env = [(false, eval a X.env), (false, eval b X.env)] := by rfl) (hs2 : starEach [b] X.env = [(false, eval b X.env)] := by rfl) : MI X W tg (.Call (.Name "range" p) [a, b] [] pos) (ciR2 ca) := by
  refine ⟨(pi_range2 hg hm ha.pa hs hs2).imp fun σ H Q h => ?_⟩
  obtain ⟨ρ, φ, S, hE, hs, h⟩ := h
  refine ⟨ρ, φ, S, hE, hs, h.step fun ds S1 φ1 H1 vs q l s r z => ?_⟩
  have p62 := p62
  cases r with
  | nil => exact z.elim
  | cons r1 r =>
    cases r with
    | nil => cases r1 <;> exact z.elim
    | cons r2 r =>
      cases r with
      | cons _ _ => cases r1 <;> cases r2 <;> exact z.elim
      | nil =>
        cases r1 <;> try exact z.elim
        cases r2 <;> try exact z.elim
        rename_i m n
        by_cases hn : -16000000 ≤ m ∧ m ≤ 16000000 ∧ -16000000 ≤ n ∧ n ≤ 16000000
        · simp only [hn, and_self, if_true] at z
          exact ⟨m, n, rfl, ⟨by omega, by omega, by omega, by omega⟩, z φ1 H1 _ (Le.refl _ _) s (ir_rng m (n - m).toNat)⟩
        · simp only [hn, if_false] at z
          exact z.elim
end

/-! ### for -/
def forL (t : Tg) (body : CS) : List D → CS
  | [], ρ, S => .nx ρ S
  | d :: ds, ρ, S => tgR t d ρ fun ρ1 => match body ρ1 S with
    | .nx ρ2 S2 => forL t body ds ρ2 S2
    | .cnt ρ2 S2 => forL t body ds ρ2 S2
    | .brk ρ2 S2 => .nx ρ2 S2
    | .ret d S2 => .ret d S2
    | .err x ρ2 S2 => .err x ρ2 S2
    | .bad => .bad
def cFor (ci : CI) (t : Tg) (body : CS) : CS := fun ρ S => .of ρ (ci ρ S) fun ds S => forL t body ds ρ S
theorem ms_for {X : Cx} {W : WX} {tg iter : Expr} {body : List Stmt} {ci : CI} {t : Tg} {sl : List Nat} {cb : CS} {pos : Pos} (hp : PassesOwn (model X.prog X.w) X.A X.env X.xe) (hc : X.calm = true) (hi : MI X W tg iter ci) (hg : MG X tg t sl) (hb : MSs X W body cb)
    (hs : ∀ x, foldedSetIterable iter X.env x = pure x := by intro _; rfl) : MS X W (.For tg iter body [] pos) (cFor ci t cb) := by
  obtain ⟨g, pg, gs⟩ := hg.pg
  refine ⟨(ps_for hp hc hi.pi pg hb.ps hs).imp fun D' σ H h => ?_⟩
  obtain ⟨ρ, φ, S, hE, hs, h⟩ := h
  refine ⟨ρ, φ, S, hE, hs, OkS.from hE h fun ds S1 φ1 H1 J q l s ir z => ?_⟩
  refine ⟨fun i m σ H => i + m = ds.length ∧ ∃ ρ φ S, Le φ1 H1 φ H ∧ RE X.K φ H ρ σ ∧ RS X.K φ H S ∧ OkS X.K X.mg φ H W D' (forL t cb (ds.drop i) ρ S), ⟨ds.length, by omega, ρ, φ1, S1, Le.refl _ _, hE.mono l, s, z⟩, ?_⟩
  rintro i m σ H ⟨e, ρ, φ, S, l2, hE, hs, h⟩
  by_cases hi : i < ds.length
  · refine .inr ⟨ir.go φ H l2 i hi, fun σ' H' => ∃ ρ φ S, Le φ1 H1 φ H' ∧ RE X.K φ H' ρ σ' ∧ RS X.K φ H' S ∧ OkS X.K X.mg φ H' W D' (forL t cb (ds.drop (i + 1)) ρ S), fun σ' H' n => ⟨m - 1, by omega, by omega, n⟩, fun x H' y => ?_⟩
    obtain ⟨l3, s3, rx⟩ := ir.yld φ H S l2 hs i ds[i] x H' (by simp [hi]) y
    have h := OkS.later l3 h
    rw [List.drop_eq_getElem_cons hi] at h
    unfold forL tgR at h
    cases q3 : t ds[i] ρ with
    | none => simp only [q3] at h; exact h.elim
    | some ρ1 =>
      simp only [q3] at h
      refine gs.go φ H' _ x ρ ρ1 σ _ rx (hE.mono l3) q3 fun σ1 re1 _ => ⟨ρ1, φ, S, re1, s3, ?_⟩
      cases q4 : cb ρ1 S with
      | nx ρ2 S2 =>
        simp only [q4] at h
        exact fun φ4 H4 σ4 l4 s4 re4 => ⟨ρ2, φ4, S2, (l2.trans l3).trans l4, re4, s4, OkS.later l4 h⟩
      | cnt ρ2 S2 =>
        simp only [q4] at h
        exact fun φ4 H4 σ4 l4 s4 re4 => ⟨ρ2, φ4, S2, (l2.trans l3).trans l4, re4, s4, OkS.later l4 h⟩
      | brk ρ2 S2 => simp only [q4] at h; exact h
      | ret d S2 => simp only [q4] at h; exact h
      | err x ρ2 S2 => simp only [q4] at h; exact h
      | bad => simp only [q4] at h; exact h
  · have e2 : i = ds.length := by omega
    subst e2
    rw [List.drop_length] at h
    exact .inl ⟨ir.stop φ H l2, h φ H σ (Le.refl _ _) hs hE⟩

/-! ### while -/
def whileN (t : CT) (body : CS) : Nat → Ro → Sto → Option RSt
  | 0, _, _ => none
  | n + 1, ρ, S => match t ρ S with
    | .ok true S1 => match body ρ S1 with
      | .nx ρ2 S2 => whileN t body n ρ2 S2
      | .cnt ρ2 S2 => whileN t body n ρ2 S2
      | .brk ρ2 S2 => some (.nx ρ2 S2)
      | .ret d S2 => some (.ret d S2)
      | .err x ρ2 S2 => some (.err x ρ2 S2)
      | .bad => some .bad
    | .ok false S1 => some (.nx ρ S1)
    | .err x S1 => some (.err x ρ S1)
    | .bad => some .bad
theorem whileN_more (t : CT) (body : CS) : ∀ (n : Nat) (ρ : Ro) (S : Sto) (r : RSt) (k : Nat), whileN t body n ρ S = some r → whileN t body (n + k) ρ S = some r := by
  intro n
  induction n with
  | zero => intro ρ S r k h; cases h
  | succ n ih =>
    intro ρ S r k h
    rw [Nat.succ_add]
    unfold whileN at h ⊢
    cases q : t ρ S with
    | ok b S1 =>
      cases b with
      | true =>
        simp only [q] at h ⊢
        cases q2 : body ρ S1 with
        | nx ρ2 S2 => simp only [q2] at h ⊢; exact ih _ _ _ _ h
        | cnt ρ2 S2 => simp only [q2] at h ⊢; exact ih _ _ _ _ h
        | brk ρ2 S2 => simp only [q2] at h ⊢; exact h
        | ret d S2 => simp only [q2] at h ⊢; exact h
        | err x ρ2 S2 => simp only [q2] at h ⊢; exact h
        | bad => simp only [q2] at h ⊢; exact h
      | false => simp only [q] at h ⊢; exact h
    | err x S1 => simp only [q] at h ⊢; exact h
    | bad => simp only [q] at h ⊢; exact h
theorem whileN_inj {t : CT} {body : CS} {n m : Nat} {ρ : Ro} {S : Sto} {r r' : RSt} (h : whileN t body n ρ S = some r) (h' : whileN t body m ρ S = some r') : r = r' := by
  have h1 := whileN_more t body n ρ S r m h
  have h2 := whileN_more t body m ρ S r' n h'
  rw [Nat.add_comm] at h2
  rw [h1] at h2
  exact Option.some.inj h2
open Classical in
noncomputable def cWhile (t : CT) (body : CS) : CS := fun ρ S => if h : ∃ r n, whileN t body n ρ S = some r then Classical.choose h else .bad
theorem cWhile_of {t : CT} {body : CS} {n : Nat} {ρ : Ro} {S : Sto} {r : RSt} (h : whileN t body n ρ S = some r) : cWhile t body ρ S = r := by
  unfold cWhile
  have hx : ∃ r n, whileN t body n ρ S = some r := ⟨r, n, h⟩
  rw [dif_pos hx]
  obtain ⟨m, hm⟩ := Classical.choose_spec hx
  exact whileN_inj hm h
theorem cWhile_ends {t : CT} {body : CS} {ρ : Ro} {S : Sto} (h : cWhile t body ρ S ≠ .bad) : ∃ n, whileN t body n ρ S = some (cWhile t body ρ S) := by
  unfold cWhile at h ⊢
  by_cases hx : ∃ r n, whileN t body n ρ S = some r
  · rw [dif_pos hx]
    exact Classical.choose_spec hx
  · rw [dif_neg hx] at h
    exact absurd rfl h
/-- one turn -/
theorem cWhile_go {t : CT} {body : CS} {ρ ρ2 : Ro} {S S1 S2 : Sto} (ht : t ρ S = .ok true S1) (hb : body ρ S1 = .nx ρ2 S2) : cWhile t body ρ S = cWhile t body ρ2 S2 := by
  by_cases h : cWhile t body ρ2 S2 = .bad
  · by_cases h' : cWhile t body ρ S = .bad
    · rw [h, h']
    · obtain ⟨n, hn⟩ := cWhile_ends h'
      cases n with
      | zero => cases hn
      | succ n =>
        unfold whileN at hn
        simp only [ht, hb] at hn
        exact (cWhile_of hn).symm
  · obtain ⟨n, hn⟩ := cWhile_ends h
    refine cWhile_of (n := n + 1) ?_
    unfold whileN
    simp only [ht, hb]
    exact hn
theorem cWhile_end {t : CT} {body : CS} {ρ : Ro} {S S1 : Sto} (ht : t ρ S = .ok false S1) : cWhile t body ρ S = .nx ρ S1 := by
  refine cWhile_of (n := 1) ?_
  unfold whileN
  simp only [ht]
theorem cWhile_ret {t : CT} {body : CS} {ρ : Ro} {S S1 S2 : Sto} {d : D} (ht : t ρ S = .ok true S1) (hb : body ρ S1 = .ret d S2) : cWhile t body ρ S = .ret d S2 := by
  refine cWhile_of (n := 1) ?_
  unfold whileN
  simp only [ht, hb]
theorem cWhile_brk {t : CT} {body : CS} {ρ ρ2 : Ro} {S S1 S2 : Sto} (ht : t ρ S = .ok true S1) (hb : body ρ S1 = .brk ρ2 S2) : cWhile t body ρ S = .nx ρ2 S2 := by
  refine cWhile_of (n := 1) ?_
  unfold whileN
  simp only [ht, hb]
theorem cWhile_cnt {t : CT} {body : CS} {ρ ρ2 : Ro} {S S1 S2 : Sto} (ht : t ρ S = .ok true S1) (hb : body ρ S1 = .cnt ρ2 S2) : cWhile t body ρ S = cWhile t body ρ2 S2 := by
  by_cases h : cWhile t body ρ2 S2 = .bad
  · by_cases h' : cWhile t body ρ S = .bad
    · rw [h, h']
    · obtain ⟨n, hn⟩ := cWhile_ends h'
      cases n with
      | zero => cases hn
      | succ n =>
        unfold whileN at hn
        simp only [ht, hb] at hn
        exact (cWhile_of hn).symm
  · obtain ⟨n, hn⟩ := cWhile_ends h
    refine cWhile_of (n := n + 1) ?_
    unfold whileN
    simp only [ht, hb]
    exact hn
theorem cWhile_err {t : CT} {body : CS} {ρ ρ2 : Ro} {S S1 S2 : Sto} {x : Exn} (ht : t ρ S = .ok true S1) (hb : body ρ S1 = .err x ρ2 S2) : cWhile t body ρ S = .err x ρ2 S2 := by
  refine cWhile_of (n := 1) ?_
  unfold whileN
  simp only [ht, hb]
theorem ms_while {X : Cx} {W : WX} {c : Expr} {body : List Stmt} {t : CT} {cb : CS} {pos : Pos} (hp : PassesOwn (model X.prog X.w) X.A X.env X.xe) (hc : MT X W c t) (hb : MSs X W body cb) : MS X W (.While c body [] pos) (cWhile t cb) := by
  refine ⟨(ps_while hp hc.pt hb.ps).imp fun D' σ H h => ?_⟩
  obtain ⟨ρ, φ, S, hE, hs, h⟩ := h
  have hb : cWhile t cb ρ S ≠ .bad := fun e => by rw [e] at h; exact h
  obtain ⟨n, hn⟩ := cWhile_ends hb
  generalize cWhile t cb ρ S = r at h hn
  refine ⟨fun m σ H => ∃ ρ φ S r, RE X.K φ H ρ σ ∧ RS X.K φ H S ∧ whileN t cb m ρ S = some r ∧ OkS X.K X.mg φ H W D' r, ⟨n, ρ, φ, S, r, hE, hs, hn, h⟩, ?_⟩
  rintro m σ H ⟨ρ, φ, S, r, hE, hs, hn, h⟩
  cases m with
  | zero => cases hn
  | succ m =>
    unfold whileN at hn
    cases q : t ρ S with
    | bad =>
      simp only [q] at hn
      cases hn
      exact h.elim
    | err x S1 =>
      simp only [q] at hn
      cases hn
      refine ⟨ρ, φ, S, hE, hs, ?_⟩
      rw [q]
      exact fun φ1 H1 c d l s rx => h φ1 H1 σ c d l s (hE.mono l) rx
    | ok b S1 =>
      refine ⟨ρ, φ, S, hE, hs, ?_⟩
      rw [q]
      intro φ1 H1 b' l s e
      cases e
      cases b with
      | false =>
        simp only [q] at hn
        cases hn
        simp only [Bool.false_eq_true, if_false]
        exact h φ1 H1 σ l s (hE.mono l)
      | true =>
        simp only [q] at hn
        simp only [if_true]
        refine ⟨fun σ' H' => ∃ ρ φ S r, RE X.K φ H' ρ σ' ∧ RS X.K φ H' S ∧ whileN t cb m ρ S = some r ∧ OkS X.K X.mg φ H' W D' r, fun σ' H' n => ⟨m, by omega, n⟩, ρ, φ1, S1, hE.mono l, s, ?_⟩
        have h := OkS.later l h
        cases q2 : cb ρ S1 with
        | nx ρ2 S2 => simp only [q2] at hn; exact fun φ4 H4 σ4 l4 s4 re4 => ⟨ρ2, φ4, S2, r, re4, s4, hn, OkS.later l4 h⟩
        | cnt ρ2 S2 => simp only [q2] at hn; exact fun φ4 H4 σ4 l4 s4 re4 => ⟨ρ2, φ4, S2, r, re4, s4, hn, OkS.later l4 h⟩
        | brk ρ2 S2 => simp only [q2] at hn; cases hn; exact h
        | ret d S2 => simp only [q2] at hn; cases hn; exact h
        | err x ρ2 S2 => simp only [q2] at hn; cases hn; exact h
        | bad => simp only [q2] at hn; cases hn; exact h
end MP

/-! MP: displays, places, slices, built-ins, changes of the store, comprehensions. -/
namespace MP
open PySem PySem.Spec PyProof.Rows L2

/-! ### displays -/
def cTup (a : CA) : C := fun ρ S => (a ρ S).bind fun ds S => .ok (.tup ds) S
def cLst (a : CA) : C := fun ρ S => (a ρ S).bind fun ds S => .ok (.lst ds) S
section
variable {X : Cx} {W : WX} {es : List Expr} {ca : CA} {pos : Pos}
theorem Ok.stepA {α' β' : Type} {rel' : Phi → Hp → α' → β' → Prop} {σ : L2.St} {φ : Phi} {H : Hp} {ρ : Ro} {S : Sto} {Q : List V → Hp → Prop} {Q' : β' → Hp → Prop} {f : List D → Sto → R α'} (ha : MA X W es ca)
    (h : Ok X.K X.mg rel' φ H (fun cls d H' => W cls d σ H') Q' ((ca ρ S).bind f)) (k : ∀ ds S φ1 H1 vs, ds.length = es.length → vs.length = es.length → Le φ H φ1 H1 → RS X.K φ1 H1 S → RelL X.K φ1 H1 ds vs → Ok X.K X.mg rel' φ1 H1 (fun cls d H' => W cls d σ H') Q' (f ds S) → Q vs H1) :
    Ok X.K X.mg (RelL X.K) φ H (fun cls d H' => W cls d σ H') Q (ca ρ S) :=
  h.step fun ds S1 φ1 H1 vs q l s r z => k ds S1 φ1 H1 vs (ha.len _ _ _ _ q) (by rw [← r.length]; exact ha.len _ _ _ _ q) l s r z
theorem me_tup {x1} (ha : MA X W es ca) (hl : es.length ≤ 16000000 := by decide) : ME X W (.Tuple es x1 pos) (cTup ca) := by
  refine ⟨(pe_tup ha.pa).imp fun σ H Q h => ?_⟩
  obtain ⟨ρ, φ, S, hE, hs, h⟩ := h
  refine ⟨ρ, φ, S, hE, hs, Ok.stepA ha h fun ds S1 φ1 H1 vs l1 l2 l s r z => ?_⟩
  refine ⟨line_ge (by omega), fun p hp => z φ1 _ _ (Le.fresh hp) (s.laid hp) ?_⟩
  exact .tup (line_ge (by omega)) (.inl ⟨.inl upd_same, s.fresh hp⟩) (r.laid hp)
theorem me_lst (ha : MA X W es ca) (hl : es.length ≤ 16000000 := by decide) : ME X W (.List es pos) (cLst ca) := by
  refine ⟨(pe_lst ha.pa).imp fun σ H Q h => ?_⟩
  obtain ⟨ρ, φ, S, hE, hs, h⟩ := h
  refine ⟨ρ, φ, S, hE, hs, Ok.stepA ha h fun ds S1 φ1 H1 vs l1 l2 l s r z => ?_⟩
  refine ⟨line_ge (by omega), fun p hp => z φ1 _ _ (Le.fresh hp) (s.laid hp) ?_⟩
  exact .lst (line_ge (by omega)) upd_same (s.fresh hp) (r.laid hp)
end

/-! ### a new changeable object -/
section
variable {α : Type}
/-- at the k-th level from the top -/
def newAt : Nat → List (List α) → α → Option (Nat × Nat × List (List α))
  | _, [], _ => none
  | 0, r :: rs, o => some (rs.length, r.length, (r ++ [o]) :: rs)
  | k + 1, r :: rs, o => match newAt k rs o with
    | some (l, i, rs') => some (l, i, r :: rs')
    | none => none
theorem newAt_len : ∀ {k : Nat} {rs rs' : List (List α)} {o : α} {l i : Nat}, newAt k rs o = some (l, i, rs') → rs'.length = rs.length
  | _, [], _, _, _, _, h => by simp [newAt] at h
  | 0, r :: rs, _, o, l, i, h => by
    simp only [newAt, Option.some.injEq, Prod.mk.injEq] at h
    obtain ⟨_, _, e⟩ := h
    rw [← e]; rfl
  | k + 1, r :: rs, rs', o, l, i, h => by
    unfold newAt at h
    cases q : newAt k rs o with
    | none => simp only [q] at h; cases h
    | some t =>
      obtain ⟨l2, i2, r2⟩ := t
      simp only [q, Option.some.injEq, Prod.mk.injEq] at h
      obtain ⟨_, _, e⟩ := h
      rw [← e, List.length_cons, List.length_cons, newAt_len q]
theorem newAt_lt : ∀ {k : Nat} {rs rs' : List (List α)} {o : α} {l i : Nat}, newAt k rs o = some (l, i, rs') → l < rs.length
  | _, [], _, _, _, _, h => by simp [newAt] at h
  | 0, r :: rs, _, o, l, i, h => by
    simp only [newAt, Option.some.injEq, Prod.mk.injEq] at h
    obtain ⟨e, _, _⟩ := h
    rw [← e]; simp
  | k + 1, r :: rs, rs', o, l, i, h => by
    unfold newAt at h
    cases q : newAt k rs o with
    | none => simp only [q] at h; cases h
    | some t =>
      obtain ⟨l2, i2, r2⟩ := t
      simp only [q, Option.some.injEq, Prod.mk.injEq] at h
      obtain ⟨e, _, _⟩ := h
      have := newAt_lt q
      rw [← e, List.length_cons]
      omega
theorem newAt_at : ∀ {k : Nat} {rs rs' : List (List α)} {o : α} {l i : Nat}, newAt k rs o = some (l, i, rs') → ∀ l' i', look rs' l' i' = if l' = l ∧ i' = i then some o else look rs l' i'
  | _, [], _, _, _, _, h => by simp [newAt] at h
  | 0, r :: rs, _, o, l, i, h => by
    simp only [newAt, Option.some.injEq, Prod.mk.injEq] at h
    obtain ⟨e1, e2, e⟩ := h
    subst e1 e2 e
    intro l' i'
    rw [look, look]
    by_cases hl : l' = rs.length
    · rw [if_pos hl, if_pos hl]
      by_cases hi : i' = r.length
      · subst hi
        simp [hl]
      · rw [if_neg (by omega)]
        by_cases hlt : i' < r.length
        · rw [List.getElem?_append_left hlt]
        · rw [List.getElem?_eq_none (by simp; omega), List.getElem?_eq_none (by omega)]
    · rw [if_neg hl, if_neg hl, if_neg (by omega)]
  | k + 1, r :: rs, rs', o, l, i, h => by
    unfold newAt at h
    cases q : newAt k rs o with
    | none => simp only [q] at h; cases h
    | some t =>
      obtain ⟨l2, i2, r2⟩ := t
      simp only [q, Option.some.injEq, Prod.mk.injEq] at h
      obtain ⟨e1, e2, e⟩ := h
      subst e1 e2 e
      intro l' i'
      have hlt := newAt_lt q
      rw [look, look, newAt_len q]
      by_cases hl : l' = rs.length
      · rw [if_pos hl, if_pos hl, if_neg (by omega)]
      · rw [if_neg hl, if_neg hl]
        exact newAt_at q l' i'
theorem newAt_fresh : ∀ {k : Nat} {rs rs' : List (List α)} {o : α} {l i : Nat}, newAt k rs o = some (l, i, rs') → look rs l i = none
  | _, [], _, _, _, _, h => by simp [newAt] at h
  | 0, r :: rs, _, o, l, i, h => by
    simp only [newAt, Option.some.injEq, Prod.mk.injEq] at h
    obtain ⟨e1, e2, e⟩ := h
    subst e1 e2
    simp
  | k + 1, r :: rs, rs', o, l, i, h => by
    unfold newAt at h
    cases q : newAt k rs o with
    | none => simp only [q] at h; cases h
    | some t =>
      obtain ⟨l2, i2, r2⟩ := t
      simp only [q, Option.some.injEq, Prod.mk.injEq] at h
      obtain ⟨e1, e2, e⟩ := h
      subst e1 e2
      rw [look_low r _ (newAt_lt q)]
      exact newAt_fresh q
/-- two stores of one shape take it at the same place -/
theorem newAt_both {β : Type} : ∀ {k : Nat} {rs rs' : List (List α)} {qs : List (List β)} {o : α} {l i : Nat} (b : β), rs.map List.length = qs.map List.length → newAt k rs o = some (l, i, rs') → ∃ qs', newAt k qs b = some (l, i, qs') ∧ rs'.map List.length = qs'.map List.length
  | _, [], _, _, _, _, _, _, _, h => by simp [newAt] at h
  | _, _ :: _, _, [], _, _, _, _, e, _ => by simp at e
  | 0, r :: rs, _, q :: qs, o, l, i, b, e, h => by
    simp only [newAt, Option.some.injEq, Prod.mk.injEq] at h
    obtain ⟨e1, e2, e3⟩ := h
    subst e1 e2 e3
    simp only [List.map_cons, List.cons.injEq] at e
    have e2 : rs.length = qs.length := by have := congrArg List.length e.2; simpa using this
    refine ⟨(q ++ [b]) :: qs, ?_, by simp [e.1, e.2]⟩
    simp [newAt, e2, e.1]
  | k + 1, r :: rs, rs', q :: qs, o, l, i, b, e, h => by
    unfold newAt at h
    cases z : newAt k rs o with
    | none => simp only [z] at h; cases h
    | some t =>
      obtain ⟨l2, i2, r2⟩ := t
      simp only [z, Option.some.injEq, Prod.mk.injEq] at h
      obtain ⟨e1, e2, e3⟩ := h
      subst e1 e2 e3
      simp only [List.map_cons, List.cons.injEq] at e
      obtain ⟨qs', h1, h2⟩ := newAt_both b e.2 z
      refine ⟨q :: qs', ?_, by simp [e.1, h2]⟩
      simp [newAt, h1]
end
section
variable {K : PySem.W.Frag} {φ : Phi} {H : Hp} {S S' : Sto}
/-- it is laid -/
theorem RS.newed {k l i : Nat} {o : O} {p : Addr} {u : HO} (s : RS K φ H S) (hp : H p = none) (h : newAt k S o = some (l, i, S')) (hl : o.le l = true) (hr : ∀ φ', Le φ H φ' (upd H p u) → RO K φ' (upd H p u) o p) :
    ∃ φ', Le φ H φ' (upd H p u) ∧ RS K φ' (upd H p u) S' ∧ look φ'.r l i = some p := by
  obtain ⟨r', h1, h2⟩ := newAt_both p s.shape.symm h
  have ha := newAt_at h1
  have hb := newAt_at h
  have fr := s.fresh hp
  have le : Le φ H ⟨r', φ.p⟩ (upd H p u) := by
    refine ⟨newAt_len h1, fun l' i' a e => ?_, fun a w e aw => ⟨upd_some hp e, fun l' i' e' => ?_, aw.2⟩, fun _ e => e, fun a w _ e => upd_some hp e⟩
    · rw [show look (Phi.mk r' φ.p).r l' i' = look r' l' i' from rfl, ha]
      by_cases q : l' = l ∧ i' = i
      · rw [q.1, q.2, newAt_fresh h1] at e
        cases e
      · rw [if_neg q]; exact e
    · rw [show look (Phi.mk r' φ.p).r l' i' = look r' l' i' from rfl, ha] at e'
      by_cases q : l' = l ∧ i' = i
      · rw [if_pos q] at e'
        cases e'
        rw [hp] at e
        cases e
      · rw [if_neg q] at e'
        exact aw.1 _ _ e'
  refine ⟨⟨r', φ.p⟩, le, ⟨h2.symm, fun l' i' o' a e1 e2 => ?_, fun l' i' l2 i2 a e1 e2 => ?_, fun l' i' o' e => ?_, fun l' i' a e => ?_, fun a e => ?_, fun l' i' a e => ?_⟩, ?_⟩
  · rw [show look (Phi.mk r' φ.p).r l' i' = look r' l' i' from rfl, ha] at e2
    rw [hb] at e1
    by_cases q : l' = l ∧ i' = i
    · rw [if_pos q] at e1 e2
      cases e1
      cases e2
      exact hr _ le
    · rw [if_neg q] at e1 e2
      exact (s.obj l' i' o' a e1 e2).tr le.stay le.grow fun _ e => upd_some hp e
  · rw [show look (Phi.mk r' φ.p).r l' i' = look r' l' i' from rfl, ha] at e1
    rw [show look (Phi.mk r' φ.p).r l2 i2 = look r' l2 i2 from rfl, ha] at e2
    by_cases q : l' = l ∧ i' = i <;> by_cases q2 : l2 = l ∧ i2 = i
    · omega
    · rw [if_pos q] at e1
      rw [if_neg q2] at e2
      cases e1
      exact absurd e2 (fr.1 _ _)
    · rw [if_neg q] at e1
      rw [if_pos q2] at e2
      cases e2
      exact absurd e1 (fr.1 _ _)
    · rw [if_neg q] at e1
      rw [if_neg q2] at e2
      exact s.inj _ _ _ _ a e1 e2
  · rw [hb] at e
    by_cases q : l' = l ∧ i' = i
    · rw [if_pos q] at e
      cases e
      rw [q.1]; exact hl
    · rw [if_neg q] at e
      exact s.lev _ _ _ e
  · rw [show look (Phi.mk r' φ.p).r l' i' = look r' l' i' from rfl, ha] at e
    by_cases q : l' = l ∧ i' = i
    · rw [if_pos q] at e
      cases e
      rw [upd_same]; simp
    · rw [if_neg q] at e
      have := s.trk _ _ _ e
      cases z : H a with
      | none => exact absurd z this
      | some w => rw [upd_some hp z]; simp
  · have := s.ptrk a e
    cases z : H a with
    | none => exact absurd z this
    | some w => rw [upd_some hp z]; simp
  · rw [show look (Phi.mk r' φ.p).r l' i' = look r' l' i' from rfl, ha] at e
    by_cases q : l' = l ∧ i' = i
    · rw [if_pos q] at e
      cases e
      exact fr.2
    · rw [if_neg q] at e
      exact s.dis _ _ _ e
  · rw [show look (Phi.mk r' φ.p).r l i = look r' l i from rfl, ha, if_pos ⟨rfl, rfl⟩]
/-- an object is changed -/
theorem Le.put {l i : Nat} {a : Addr} {u : HO} (s : RS K φ H S) (ha : look φ.r l i = some a) : Le φ H φ (upd H a u) :=
  ⟨rfl, fun _ _ _ e => e, fun b w e aw => ⟨by rw [upd_ne]; exact e; intro z; rw [z] at aw; exact aw.1 _ _ ha, aw⟩, fun _ e => e, fun b w hb e => by rw [upd_ne]; exact e; intro z; rw [z] at hb; exact s.dis _ _ _ ha hb⟩
theorem RS.put {l i : Nat} {a : Addr} {u : HO} {o o' : O} (s : RS K φ H S) (ha : look φ.r l i = some a) (ho : look S l i = some o) (hl : o'.le l = true) (hr : RO K φ (upd H a u) o' a) : RS K φ (upd H a u) (put S l i o') := by
  have le : Le φ H φ (upd H a u) := Le.put s ha
  refine ⟨by rw [put_shape]; exact s.shape, fun l' i' o2 b e1 e2 => ?_, s.inj, fun l' i' o2 e => ?_, fun l' i' b e => ?_, fun b e => ?_, s.dis⟩
  · by_cases q : l' = l ∧ i' = i
    · rw [q.1, q.2, look_put_same o' ho] at e1
      rw [q.1, q.2, ha] at e2
      cases e1
      cases e2
      exact hr
    · rw [look_put_ne o' q] at e1
      have hb : b ≠ a := fun z => by
        rw [z] at e2
        exact q (s.inj _ _ _ _ a e2 ha)
      exact (s.obj _ _ _ _ e1 e2).tr le.stay le.grow fun _ e => by rw [upd_ne hb]; exact e
  · by_cases q : l' = l ∧ i' = i
    · rw [q.1, q.2, look_put_same o' ho] at e
      cases e
      rw [q.1]; exact hl
    · rw [look_put_ne o' q] at e
      exact s.lev _ _ _ e
  · by_cases hb : b = a
    · rw [hb, upd_same]; simp
    · rw [upd_ne hb]; exact s.trk _ _ _ e
  · by_cases hb : b = a
    · rw [hb, upd_same]; simp
    · rw [upd_ne hb]; exact s.ptrk _ e
end
/-- a new list that will be changed, k levels up -/
def cNew (k : Nat) (a : CA) : C := fun ρ S => (a ρ S).bind fun ds S => match newAt k S (.lst ds) with
  | some (l, i, S') => if D.les l ds = true then .ok (.ref l i) S' else .bad
  | none => .bad
theorem me_new {X : Cx} {W : WX} {es : List Expr} {ca : CA} {pos : Pos} (k : Nat) (ha : MA X W es ca) (hl : es.length ≤ 16000000 := by decide) : ME X W (.List es pos) (cNew k ca) := by
  refine ⟨(pe_lst ha.pa).imp fun σ H Q h => ?_⟩
  obtain ⟨ρ, φ, S, hE, hs, h⟩ := h
  refine ⟨ρ, φ, S, hE, hs, Ok.stepA ha h fun ds S1 φ1 H1 vs l1 l2 l s r z => ?_⟩
  refine ⟨line_ge (by omega), fun p hp => ?_⟩
  cases q : newAt k S1 (.lst ds) with
  | none => simp only [q] at z; exact z.elim
  | some t =>
    obtain ⟨lv, i, S'⟩ := t
    simp only [q] at z
    by_cases hle : D.les lv ds = true
    · simp only [hle, if_true] at z
      obtain ⟨φ', le, s', hq⟩ := s.newed (u := .lst vs) hp q hle fun φ' le => ⟨vs, upd_same, line_ge (by omega), r.mono le⟩
      exact z φ' _ _ le s' (.ref hq)
    · simp only [hle] at z
      exact z.elim

/-! ### a place of a sequence -/
def gIx : G2
  | .tup xs, .int i, S => match atI xs i with
    | some d => .ok d S
    | none => .bad
  | .lst xs, .int i, S => match atI xs i with
    | some d => .ok d S
    | none => .bad
  | .rol xs, .int i, S => match atI xs i with
    | some d => .ok d S
    | none => .bad
  | .str z, .int i, S => if z.length ≤ 16000000 then match atI z.cps.toList i with
    | some c => .ok (.str ⟨#[c]⟩) S
    | none => .bad
    else .bad
  | .ref l n, .int i, S => match look S l n with
    | some (.lst xs) => match atI xs i with
      | some d => .ok d S
      | none => .bad
    | _ => .bad
  | _, _, _ => .bad
theorem relL_at {K : PySem.W.Frag} {φ : Phi} {H : Hp} {ds : List D} {vs : List V} {i : Int} {d : D} (r : RelL K φ H ds vs) (h : atI ds i = some d) : ∃ v, atI vs i = some v ∧ Rel K φ H d v := by
  unfold atI at h ⊢
  rw [r.length] at h
  cases q : ixN vs.length i with
  | none => rw [q] at h; cases h
  | some j =>
    rw [q] at h
    exact r.get h
theorem me_ix {X : Cx} {W : WX} {pos : Pos} {a b : Expr} {ca cb : C} (ha : ME X W a ca) (hb : ME X W b cb) (hs : PlainIx b := by exact fun _ _ => rfl) : ME X W (.Subscript a b pos) (cB gIx ca cb) := by
  refine ⟨(pe_ix ix_seq ha.pe hb.pe hs).imp fun σ H Q h => bin_imp (ta := ca) (fun φ H S x y vx vy s rx ry z => ?_) h⟩
  cases ry <;> try (cases rx <;> exact z.elim)
  rename_i i
  cases rx <;> try exact z.elim
  · rename_i w
    unfold gIx at z
    by_cases hw : w.length ≤ 16000000
    · simp only [hw, if_true] at z
      cases q : atI w.cps.toList i with
      | none => simp only [q] at z; exact z.elim
      | some c =>
        simp only [q] at z
        exact .inr (.inr ⟨w, i, c, rfl, rfl, line_ge hw, q, z φ H _ (Le.refl _ _) s (.str _)⟩)
    · simp only [hw, if_false] at z
      exact z.elim
  · rename_i p vs ds zz f r
    unfold gIx at z
    cases q : atI ds i with
    | none => simp only [q] at z; exact z.elim
    | some d =>
      simp only [q] at z
      obtain ⟨v, h1, h2⟩ := relL_at r q
      exact .inr (.inl ⟨p, vs, i, v, rfl, rfl, f.sq, h1, z φ H _ (Le.refl _ _) s h2⟩)
  · rename_i p vs ds zz f w r
    unfold gIx at z
    cases q : atI ds i with
    | none => simp only [q] at z; exact z.elim
    | some d =>
      simp only [q] at z
      obtain ⟨v, h1, h2⟩ := relL_at r q
      exact .inl ⟨p, vs, i, v, rfl, rfl, SqL.of f, h1, z φ H _ (Le.refl _ _) s h2⟩
  · rename_i p vs ds zz f r
    unfold gIx at z
    cases q : atI ds i with
    | none => simp only [q] at z; exact z.elim
    | some d =>
      simp only [q] at z
      obtain ⟨v, h1, h2⟩ := relL_at r q
      exact .inl ⟨p, vs, i, v, rfl, rfl, f.sq, h1, z φ H _ (Le.refl _ _) s h2⟩
  · rename_i l n p e
    unfold gIx at z
    cases q : look S l n with
    | none => simp only [q] at z; exact z.elim
    | some o =>
      cases o with
      | dead => simp only [q] at z; exact z.elim
      | box => simp only [q] at z; exact z.elim
      | lst ds =>
        simp only [q] at z
        obtain ⟨vs, hv, _, r⟩ := s.obj l n _ p q e
        cases q2 : atI ds i with
        | none => simp only [q2] at z; exact z.elim
        | some d =>
          simp only [q2] at z
          obtain ⟨v, h1, h2⟩ := relL_at r q2
          exact .inl ⟨p, vs, i, v, rfl, rfl, SqL.of hv, h1, z φ H _ (Le.refl _ _) s h2⟩

/-! ### slices -/
abbrev CO := Ro → Sto → R (Option Int)
def coN : CO := fun _ S => .ok none S
def coS (c : C) : CO := fun ρ S => (c ρ S).bind fun d S => match d with
  | .int i => .ok (some i) S
  | _ => .bad
def cutL {α : Type} (xs : List α) (lo hi : Option Int) : List α := (xs.drop (HT.sIx xs.length 0 lo)).take (HT.sIx xs.length xs.length hi - HT.sIx xs.length 0 lo)
def gSl (x : D) (lo hi : Option Int) (S : Sto) : R D := match x with
  | .tup xs => .ok (.tup (cutL xs lo hi)) S
  | .lst xs => .ok (.lst (cutL xs lo hi)) S
  | .rol xs => .ok (.lst (cutL xs lo hi)) S
  | .str z => if z.length ≤ 16000000 then .ok (.str (cutS z lo hi)) S else .bad
  | .ref l n => match look S l n with
    | some (.lst xs) => .ok (.lst (cutL xs lo hi)) S
    | _ => .bad
  | _ => .bad
def cSl (a : C) (lo hi : CO) : C := fun ρ S => (a ρ S).bind fun x S => (lo ρ S).bind fun l S => (hi ρ S).bind fun h S => gSl x l h S
def rdO (X : Cx) (W : WX) (c : CO) : TO := fun σ H Q => ∃ ρ φ S, RE X.K φ H ρ σ ∧ RS X.K φ H S ∧ Ok X.K X.mg (fun _ _ (a b : Option Int) => a = b) φ H (fun cls d H' => W cls d σ H') Q (c ρ S)
structure MO (X : Cx) (W : WX) (e : Option Expr) (c : CO) : Prop where
  po : PO X e (rdO X W c)
theorem _root_.L2.PO.imp {X : Cx} {e : Option Expr} {t u : TO} (h : PO X e t) (k : ∀ σ H Q, u σ H Q → t σ H Q) : PO X e u := ⟨fun pins s σ H Q I z => h.run pins s σ H Q I (k σ H Q z)⟩
section
variable {X : Cx} {W : WX} {pos p2 : Pos} {a e : Expr} {lo hi : Option Expr} {ca ce : C} {cl ch : CO}
theorem mo_none : MO X W none coN := ⟨po_none.imp fun σ H Q h => by
  obtain ⟨ρ, φ, S, hE, hs, h⟩ := h
  exact h φ H none (Le.refl _ _) hs rfl⟩
theorem mo_some (he : ME X W e ce) : MO X W (some e) (coS ce) := ⟨(po_some he.pe).imp fun σ H Q h => by
  obtain ⟨ρ, φ, S, hE, hs, h⟩ := h
  refine ⟨ρ, φ, S, hE, hs, h.step fun d S1 φ1 H1 v q l s r z => ?_⟩
  cases r <;> try exact z.elim
  rename_i i
  exact ⟨i, rfl, z φ1 H1 _ (Le.refl _ _) s rfl⟩⟩
theorem relL_cut {K : PySem.W.Frag} {φ : Phi} {H : Hp} {ds : List D} {vs : List V} (r : RelL K φ H ds vs) (lo hi : Option Int) : RelL K φ H (cutL ds lo hi) (cutV vs lo hi) := by
  unfold cutL cutV
  rw [r.length]
  exact (r.drop _).take _
theorem cutV_all {vs : List V} {lo hi : Option Int} (h : HT.sIx vs.length 0 lo = 0 ∧ HT.sIx vs.length vs.length hi = vs.length) : cutV vs lo hi = vs := by
  unfold cutV
  rw [h.1, h.2]
  simp
theorem me_sl (ha : ME X W a ca) (hl : MO X W lo cl) (hh : MO X W hi ch) : ME X W (.Subscript a (.Slice lo hi none p2) pos) (cSl ca cl ch) := by
  refine ⟨(pe_slice ((sl_list (X := X)).or (sl_tupA.or sl_str)) ha.pe hl.po hh.po).imp fun σ H Q h => ?_⟩
  obtain ⟨ρ, φ, S, hE, hs, h⟩ := h
  refine ⟨ρ, φ, S, hE, hs, h.step fun x S1 φ1 H1 vx q l1 s1 rx0 za => ⟨ρ, φ1, S1, hE.mono l1, s1, za.step fun o1 S2 φ2 H2 o1' q2 l2 s2 e1 zb => ⟨ρ, φ2, S2, (hE.mono l1).mono l2, s2, zb.step fun o2 S3 φ3 H3 o2' q3 l3 s3 e2 z => ?_⟩⟩⟩
  cases e1
  cases e2
  have rx := (rx0.mono l2).mono l3
  clear rx0 za zb q q2 q3 h
  cases rx <;> try exact z.elim
  · rename_i w
    unfold gSl at z
    by_cases hw : w.length ≤ 16000000
    · simp only [hw, if_true] at z
      exact .inr (.inr ⟨w, rfl, line_ge hw, z φ3 H3 _ (Le.refl _ _) s3 (.str _)⟩)
    · simp only [hw, if_false] at z
      exact z.elim
  · rename_i p vs ds zz f r
    have rc := relL_cut r o1 o2
    refine .inr (.inl ⟨p, vs, rfl, f.sq, fun hw => ?_, fun hw p' hp' => ?_⟩)
    · rw [cutV_all hw] at rc
      exact z φ3 H3 _ (Le.refl _ _) s3 (.tup zz f rc)
    · exact z φ3 _ _ (Le.fresh hp') (s3.laid hp') (.tup (Nat.le_trans (cutV_length _ _ _) zz) (.inl ⟨.inl upd_same, s3.fresh hp'⟩) (rc.laid hp'))
  · rename_i p vs ds zz f w r
    have rc := relL_cut r o1 o2
    refine .inl ⟨p, vs, rfl, SqL.of f, fun p' hp' => ?_⟩
    exact z φ3 _ _ (Le.fresh hp') (s3.laid hp') (.lst (Nat.le_trans (cutV_length _ _ _) zz) upd_same (s3.fresh hp') (rc.laid hp'))
  · rename_i p vs ds zz f r
    have rc := relL_cut r o1 o2
    refine .inl ⟨p, vs, rfl, f.sq, fun p' hp' => ?_⟩
    exact z φ3 _ _ (Le.fresh hp') (s3.laid hp') (.lst (Nat.le_trans (cutV_length _ _ _) zz) upd_same (s3.fresh hp') (rc.laid hp'))
  · rename_i l n p e
    unfold gSl at z
    cases q : look S3 l n with
    | none => simp only [q] at z; exact z.elim
    | some o =>
      cases o with
      | dead => simp only [q] at z; exact z.elim
      | box => simp only [q] at z; exact z.elim
      | lst ds =>
        simp only [q] at z
        obtain ⟨vs, hv, zz, r⟩ := s3.obj l n _ p q e
        have rc := relL_cut r o1 o2
        refine .inl ⟨p, vs, rfl, SqL.of hv, fun p' hp' => ?_⟩
        exact z φ3 _ _ (Le.fresh hp') (s3.laid hp') (.lst (Nat.le_trans (cutV_length _ _ _) zz) upd_same (s3.fresh hp') (rc.laid hp'))
end

/-! ### o[i] = e, o.append(e) -/
def cSetI (o i e : C) : CS := fun ρ S => .of ρ (e ρ S) fun d S => .of ρ (o ρ S) fun x S => .of ρ (i ρ S) fun k S => match x, k with
  | .ref l n, .int j => match look S l n with
    | some (.lst xs) => match ixN xs.length j with
      | some m => if D.les l (xs.set m d) = true then .nx ρ (put S l n (.lst (xs.set m d))) else .bad
      | none => .bad
    | _ => .bad
  | _, _ => .bad
theorem ms_setI {X : Cx} {W : WX} {pos pos' : Pos} {o i e : Expr} {co ci ce : C} (he : ME X W e ce) (ho : ME X W o co) (hi : ME X W i ci)
    (ha : ∀ v, assign (.Subscript o i pos') X.env v = (do
      let ov ← holding [v] (eval o X.env)
      let iv ← holding [v, ov] (eval i X.env)
      standAt pos'
      holding [v, ov, iv] (setItem ov iv v)
      release [v, ov, iv] []) := by intro _; rfl)
    (hs : swapsWithSole [.Subscript o i pos'] e pos.line X.env = pure false := by rfl) (hw : swappedStores [.Subscript o i pos'] e X.env = pure none := by rfl)
    (h1 : (assignEach [.Subscript o i pos'] X.env).map (·.2) = [assign (.Subscript o i pos') X.env] := by rfl) : MS X W (.Assign [.Subscript o i pos'] e pos) (cSetI co ci ce) := by
  refine ⟨(ps_asg he.pe (pg_sub ho.pe hi.pe set_list ha) hs hw h1).imp fun D' σ H h => ?_⟩
  obtain ⟨ρ, φ, S, hE, hs, h⟩ := h
  refine ⟨ρ, φ, S, hE, hs, OkS.from hE h fun d S1 φ1 H1 v q l1 s1 rd0 za => ⟨ρ, φ1, S1, hE.mono l1, s1, OkS.from (hE.mono l1) za fun x S2 φ2 H2 vx q2 l2 s2 rx0 zb => ⟨ρ, φ2, S2, (hE.mono l1).mono l2, s2, OkS.from ((hE.mono l1).mono l2) zb fun k S3 φ3 H3 vk q3 l3 s3 rk z => ?_⟩⟩⟩
  have rx := rx0.mono l3
  have rd := (rd0.mono l2).mono l3
  clear rx0 rd0 za zb q q2 q3 h
  cases rx <;> try exact z.elim
  cases rk <;> try exact z.elim
  rename_i l n p e j
  cases q4 : look S3 l n with
  | none => simp only [q4] at z; exact z.elim
  | some ob =>
    cases ob with
    | dead => simp only [q4] at z; exact z.elim
    | box => simp only [q4] at z; exact z.elim
    | lst ds =>
      simp only [q4] at z
      obtain ⟨vs, hv, zz, r⟩ := s3.obj l n _ p q4 e
      cases q5 : ixN ds.length j with
      | none => simp only [q5] at z; exact z.elim
      | some m =>
        simp only [q5] at z
        by_cases hle : D.les l (ds.set m d) = true
        · simp only [hle, if_true] at z
          refine ⟨p, vs, j, m, rfl, rfl, hv, by rw [← r.length]; exact q5, ?_⟩
          refine z φ3 _ σ (Le.put s3 e) (s3.put e q4 hle ⟨_, upd_same, by simpa using zz, ?_⟩) ((((hE.mono l1).mono l2).mono l3).mono (Le.put s3 e))
          exact RelL.mono (Le.put s3 e) (r.set rd m)
        · simp only [hle] at z
          exact z.elim
def cApp (o e : C) : C := fun ρ S => (o ρ S).bind fun x S => match x with
  | .ref l n => match look S l n with
    | some (.lst _) => (e ρ S).bind fun d S => match look S l n with
      | some (.lst xs) => if xs.length < 16000000 ∧ D.les l (xs ++ [d]) = true then .ok .non (put S l n (.lst (xs ++ [d]))) else .bad
      | _ => .bad
    | _ => .bad
  | _ => .bad
theorem me_app {X : Cx} {W : WX} {pos apos : Pos} {o e : Expr} {co ce : C} (ho : ME X W o co) (he : ME X W e ce)
    (hbase : attributeBase o "append" X.env (eval o X.env) = eval o X.env := by rfl) (hline : (apos.endLine == pos.line) = true := by rfl)
    (hfew : ((backTo pos (starEach [e] X.env)).all (fun x => !x.1) && (backToKw pos (keywordEach [] X.env)).all (fun x => x.1.isSome)
      && decide ([e].length + ([] : List Keyword).length + (if ([] : List Keyword).isEmpty then 0 else 1) < 30)) = true := by rfl)
    (hs : starEach [e] X.env = (false, eval e X.env) :: starEach [] X.env := by rfl) (hplain : (backTo pos (starEach [] X.env)).any (·.1) = false := by rfl) :
    ME X W (.Call (.Attribute o "append" apos) [e] [] pos) (cApp co ce) := by
  have ma := ma_cons he ma_nil hs
  refine ⟨(pe_bm PySem.F.plainAttrs_list PySem.F.slot_list_append PySem.F.type_list_append mt_append ho.pe ma.pa hbase hfew hline hs hplain).imp fun σ H Q h => ?_⟩
  obtain ⟨ρ, φ, S, hE, hs, h⟩ := h
  refine ⟨ρ, φ, S, hE, hs, h.step fun x S1 φ1 H1 vx q l1 s1 rx z => ?_⟩
  cases rx <;> try exact z.elim
  rename_i l n p e0
  cases q0 : look S1 l n with
  | none => simp only [q0] at z; exact z.elim
  | some ob0 =>
    cases ob0 with
    | dead => simp only [q0] at z; exact z.elim
    | box => simp only [q0] at z; exact z.elim
    | lst ds0 =>
      simp only [q0] at z
      obtain ⟨vs0, hv0, _, _⟩ := s1.obj l n _ p q0 e0
      refine ⟨.inl ⟨rfl, vs0, SqL.of hv0⟩, ρ, φ1, S1, hE.mono l1, s1, ?_⟩
      have z2 : Ok X.K X.mg (Rel X.K) φ1 H1 (fun cls d H' => W cls d σ H') Q ((caCons ce caNil ρ S1).bind fun ds S => match ds with
        | [d] => (match look S l n with
          | some (.lst xs) => if xs.length < 16000000 ∧ D.les l (xs ++ [d]) = true then .ok .non (put S l n (.lst (xs ++ [d]))) else .bad
          | _ => .bad)
        | _ => .bad) := by
        revert z
        unfold caCons caNil
        cases ce ρ S1 <;> exact id
      refine z2.step fun ds S2 φ2 H2 vs q2 l2 s2 r z => ?_
      cases r with
      | nil => exact z.elim
      | cons r1 r =>
        cases r with
        | cons _ _ => exact z.elim
        | nil =>
          rename_i d v
          have e2 := l2.grow _ _ _ e0
          cases q4 : look S2 l n with
          | none => simp only [q4] at z; exact z.elim
          | some ob =>
            cases ob with
            | dead => simp only [q4] at z; exact z.elim
            | box => simp only [q4] at z; exact z.elim
            | lst ds =>
              simp only [q4] at z
              obtain ⟨vs, hv, zz, r⟩ := s2.obj l n _ p q4 e2
              by_cases hle : ds.length < 16000000 ∧ D.les l (ds ++ [d]) = true
              · simp only [hle, and_self, if_true] at z
                have hlen : vs.length < 16000000 := by rw [← r.length]; exact hle.1
                refine ⟨p, vs, v, rfl, rfl, hv, line_gt hlen, z φ2 _ _ (Le.put s2 e2) (s2.put e2 q4 hle.2 ⟨_, upd_same, ?_, ?_⟩) .non⟩
                · rw [List.length_append]
                  exact line_ge (by simp; omega)
                · exact RelL.mono (Le.put s2 e2) (r.append (.cons r1 .nil))
              · simp only [hle, if_false] at z
                exact z.elim

/-! ### built-ins by name -/
def KS (X : Cx) (f : Value) (g : List D → Sto → R D) : Prop :=
  ∃ r : List V → Hp → VK → Prop, CallR X f r ∧ ∀ (W : WX) (σ : L2.St) (φ : Phi) (H : Hp) (S : Sto) (ds : List D) (vs : List V) (Q : VK), RS X.K φ H S → RelL X.K φ H ds vs → Ok X.K X.mg (Rel X.K) φ H (fun cls d H' => W cls d σ H') Q (g ds S) → r vs H Q
def cCall (g : List D → Sto → R D) (a : CA) : C := fun ρ S => (a ρ S).bind g
section
variable {X : Cx} {W : WX} {pos p : Pos} {x : Str} {e : Expr} {es : List Expr} {ca : CA} {g : List D → Sto → R D} {id T : String}
theorem me_callB (hc : KS X (.builtin id) g) (hg : Gl X x) (hm : X.mg x = none) (hv : bootBuiltins x = some (.builtin id)) (ha : MA X W (e :: es) ca) (hn : x ≠ "__name__" := by decide) (hdb : (x == ("__debug__" : Str)) = false := by decide)
    (he : starEach (e :: es) X.env = (false, eval e X.env) :: starEach es X.env := by rfl) (hpl : (backTo pos (starEach es X.env)).any (·.1) = false := by rfl) : ME X W (.Call (.Name x p) (e :: es) [] pos) (cCall g ca) := by
  obtain ⟨r, hr, k⟩ := hc
  refine ⟨(pe_callB hr hg hm hv ha.pa hn hdb he hpl).imp fun σ H Q h => ?_⟩
  obtain ⟨ρ, φ, S, hE, hs, h⟩ := h
  exact ⟨ρ, φ, S, hE, hs, h.step fun ds S1 φ1 H1 vs q l s r z => k W σ φ1 H1 S1 ds vs Q s r z⟩
theorem me_callTy (hc : KS X (.type T) g) (hg : Gl X x) (hm : X.mg x = none) (hv : bootBuiltins x = some (.type T)) (ha : MA X W (e :: es) ca) (hn : x ≠ "__name__" := by decide) (hdb : (x == ("__debug__" : Str)) = false := by decide)
    (he : starEach (e :: es) X.env = (false, eval e X.env) :: starEach es X.env := by rfl) (hpl : (backTo pos (starEach es X.env)).any (·.1) = false := by rfl) : ME X W (.Call (.Name x p) (e :: es) [] pos) (cCall g ca) := by
  obtain ⟨r, hr, k⟩ := hc
  refine ⟨(pe_callTy hr hg hm hv ha.pa hn hdb he hpl).imp fun σ H Q h => ?_⟩
  obtain ⟨ρ, φ, S, hE, hs, h⟩ := h
  exact ⟨ρ, φ, S, hE, hs, h.step fun ds S1 φ1 H1 vs q l s r z => k W σ φ1 H1 S1 ds vs Q s r z⟩
/-- a built-in class as a value -/
theorem me_ty {n : String} (hg : Gl X x) (hm : X.mg x = none) (hv : bootBuiltins x = some (.type n)) (hn : x ≠ "__name__" := by decide) (hd : (x == ("__debug__" : Str)) = false := by decide) : ME X W (.Name x pos) (cK (.ty n)) :=
  me_c (pe_bltn (v := .ty n) hg hm hv rfl hn hd) fun _ _ => .ty n
end
section
variable {X : Cx}
theorem KS.or {f : Value} {g1 g2 g : List D → Sto → R D} (h1 : KS X f g1) (h2 : KS X f g2) (e : ∀ ds S, g ds S = g1 ds S ∨ g ds S = g2 ds S) : KS X f g := by
  obtain ⟨r1, a1, k1⟩ := h1
  obtain ⟨r2, a2, k2⟩ := h2
  refine ⟨_, a1.or a2, fun W σ φ H S ds vs Q s r z => ?_⟩
  rcases e ds S with e | e
  · rw [e] at z
    exact .inl (k1 W σ φ H S ds vs Q s r z)
  · rw [e] at z
    exact .inr (k2 W σ φ H S ds vs Q s r z)
theorem relL1 {K : PySem.W.Frag} {φ : Phi} {H : Hp} {ds : List D} {vs : List V} (r : RelL K φ H ds vs) {d : D} (e : ds = [d]) : ∃ v, vs = [v] ∧ Rel K φ H d v := by
  subst e
  cases r with
  | cons r1 r => cases r; exact ⟨_, rfl, r1⟩
theorem relL2 {K : PySem.W.Frag} {φ : Phi} {H : Hp} {ds : List D} {vs : List V} (r : RelL K φ H ds vs) {d e : D} (h : ds = [d, e]) : ∃ v w, vs = [v, w] ∧ Rel K φ H d v ∧ Rel K φ H e w := by
  subst h
  cases r with
  | cons r1 r =>
    cases r with
    | cons r2 r => cases r; exact ⟨_, _, rfl, r1, r2⟩
def gLen : List D → Sto → R D
  | [.tup xs], S => .ok (.int xs.length) S
  | [.lst xs], S => .ok (.int xs.length) S
  | [.rol xs], S => .ok (.int xs.length) S
  | [.str z], S => if z.length ≤ 16000000 then .ok (.int z.length) S else .bad
  | [.ref l n], S => match look S l n with
    | some (.lst xs) => .ok (.int xs.length) S
    | _ => .bad
  | _, _ => .bad
theorem ks_len : KS X (.builtin "len") gLen := by
  refine ⟨_, call_len, fun W σ φ H S ds vs Q s r z => ?_⟩
  unfold gLen at z
  split at z
  · obtain ⟨v, rfl, r1⟩ := relL1 r rfl
    cases r1 with
    | tup zz f rr => exact ⟨_, _, rfl, .inr ⟨_, f.sq, rr.length⟩, z φ H _ (Le.refl _ _) s (.int _)⟩
  · obtain ⟨v, rfl, r1⟩ := relL1 r rfl
    cases r1 with
    | lst zz f w rr => exact ⟨_, _, rfl, .inl ⟨_, SqL.of f, rr.length⟩, z φ H _ (Le.refl _ _) s (.int _)⟩
  · obtain ⟨v, rfl, r1⟩ := relL1 r rfl
    cases r1 with
    | rol zz f rr => exact ⟨_, _, rfl, .inl ⟨_, f.sq, rr.length⟩, z φ H _ (Le.refl _ _) s (.int _)⟩
  · rename_i w
    obtain ⟨v, rfl, r1⟩ := relL1 r rfl
    cases r1
    by_cases hw : w.length ≤ 16000000
    · simp only [hw, if_true] at z
      exact ⟨_, _, rfl, ⟨line_ge hw, rfl⟩, z φ H _ (Le.refl _ _) s (.int _)⟩
    · simp only [hw, if_false] at z
      exact z.elim
  · rename_i l n
    obtain ⟨v, rfl, r1⟩ := relL1 r rfl
    cases r1 with
    | ref e =>
      rename_i p
      cases q : look S l n with
      | none => simp only [q] at z; exact z.elim
      | some o =>
        cases o with
        | dead => simp only [q] at z; exact z.elim
        | box => simp only [q] at z; exact z.elim
        | lst xs =>
          simp only [q] at z
          obtain ⟨vs, hv, _, rr⟩ := s.obj l n _ p q e
          exact ⟨_, _, rfl, .inl ⟨_, SqL.of hv, rr.length⟩, z φ H _ (Le.refl _ _) s (.int _)⟩
  · exact z.elim
def gAbs : List D → Sto → R D
  | [.int i], S => .ok (.int (if i < 0 then -i else i)) S
  | _, _ => .bad
theorem ks_abs : KS X (.builtin "abs") gAbs := by
  refine ⟨_, call_abs, fun W σ φ H S ds vs Q s r z => ?_⟩
  unfold gAbs at z
  split at z
  · obtain ⟨v, rfl, r1⟩ := relL1 r rfl
    cases r1
    exact ⟨_, rfl, z φ H _ (Le.refl _ _) s (.int _)⟩
  · exact z.elim
def gInt : List D → Sto → R D
  | [.int i], S => .ok (.int i) S
  | [.bl b], S => .ok (.int (if b then 1 else 0)) S
  | _, _ => .bad
theorem ks_int : KS X (.type "int") gInt := by
  refine ⟨_, call_int1, fun W σ φ H S ds vs Q s r z => ?_⟩
  unfold gInt at z
  split at z
  · obtain ⟨v, rfl, r1⟩ := relL1 r rfl
    cases r1
    exact .inl ⟨_, rfl, z φ H _ (Le.refl _ _) s (.int _)⟩
  · obtain ⟨v, rfl, r1⟩ := relL1 r rfl
    cases r1
    exact .inr ⟨_, rfl, z φ H _ (Le.refl _ _) s (.int _)⟩
  · exact z.elim
def gStrI : List D → Sto → R D
  | [.int i], S => if i.natAbs.log2 < 1920 then .ok (.str (toString i)) S else .bad
  | _, _ => .bad
theorem ks_str : KS X (.type "str") gStrI := by
  refine ⟨_, call_str_int, fun W σ φ H S ds vs Q s r z => ?_⟩
  unfold gStrI at z
  split at z
  · rename_i i
    obtain ⟨v, rfl, r1⟩ := relL1 r rfl
    cases r1
    by_cases h : i.natAbs.log2 < 1920
    · simp only [h, if_true] at z
      exact ⟨_, rfl, h, z φ H _ (Le.refl _ _) s (.str _)⟩
    · simp only [h, if_false] at z
      exact z.elim
  · exact z.elim
/-- the ints, the truth values of a list -/
def toInts : List D → Option (List Int)
  | [] => some []
  | .int i :: ds => (toInts ds).map (i :: ·)
  | _ :: _ => none
def toBls : List D → Option (List Bool)
  | [] => some []
  | .bl i :: ds => (toBls ds).map (i :: ·)
  | _ :: _ => none
@[simp] theorem toInts_map : ∀ ns : List Int, toInts (ns.map D.int) = some ns
  | [] => rfl
  | n :: ns => by simp [toInts, toInts_map ns]
@[simp] theorem toBls_map : ∀ ns : List Bool, toBls (ns.map D.bl) = some ns
  | [] => rfl
  | n :: ns => by simp [toBls, toBls_map ns]
theorem toInts_eq : ∀ {ds : List D} {ns : List Int}, toInts ds = some ns → ds = ns.map D.int
  | [], ns, h => by simp [toInts] at h; subst h; rfl
  | d :: ds, ns, h => by
    cases d <;> try (simp [toInts] at h; done)
    rename_i i
    simp only [toInts, Option.map_eq_some_iff] at h
    obtain ⟨ms, h1, h2⟩ := h
    subst h2
    rw [toInts_eq h1]
    rfl
theorem toBls_eq : ∀ {ds : List D} {ns : List Bool}, toBls ds = some ns → ds = ns.map D.bl
  | [], ns, h => by simp [toBls] at h; subst h; rfl
  | d :: ds, ns, h => by
    cases d <;> try (simp [toBls] at h; done)
    rename_i i
    simp only [toBls, Option.map_eq_some_iff] at h
    obtain ⟨ms, h1, h2⟩ := h
    subst h2
    rw [toBls_eq h1]
    rfl
def gFold {α : Type} (f : List D → Option α) (g : α → D) : List D → Sto → R D
  | [.lst xs], S => match f xs with
    | some ns => .ok (g ns) S
    | none => .bad
  | [.rol xs], S => match f xs with
    | some ns => .ok (g ns) S
    | none => .bad
  | [.ref l n], S => match look S l n with
    | some (.lst xs) => match f xs with
      | some ns => .ok (g ns) S
      | none => .bad
    | _ => .bad
  | _, _ => .bad
theorem fold_of {α : Type} {f : List D → Option α} {g : α → D} {W : WX} {σ : L2.St} {φ : Phi} {H : Hp} {S : Sto} {ds : List D} {vs : List V} {Q : VK} (s : RS X.K φ H S) (r : RelL X.K φ H ds vs) (z : Ok X.K X.mg (Rel X.K) φ H (fun cls d H' => W cls d σ H') Q (gFold f g ds S)) :
    ∃ a ws xs ns, vs = [.ref a] ∧ SqL X.K H a ws ∧ RelL X.K φ H xs ws ∧ f xs = some ns ∧ Ok X.K X.mg (Rel X.K) φ H (fun cls d H' => W cls d σ H') Q (.ok (g ns) S) := by
  unfold gFold at z
  split at z
  · rename_i xs
    obtain ⟨v, rfl, r1⟩ := relL1 r rfl
    cases r1 with
    | lst zz h w rr =>
      cases q : f xs with
      | none => simp only [q] at z; exact z.elim
      | some ns => simp only [q] at z; exact ⟨_, _, xs, ns, rfl, SqL.of h, rr, q, z⟩
  · rename_i xs
    obtain ⟨v, rfl, r1⟩ := relL1 r rfl
    cases r1 with
    | rol zz h rr =>
      cases q : f xs with
      | none => simp only [q] at z; exact z.elim
      | some ns => simp only [q] at z; exact ⟨_, _, xs, ns, rfl, h.sq, rr, q, z⟩
  · rename_i l n
    obtain ⟨v, rfl, r1⟩ := relL1 r rfl
    cases r1 with
    | ref e =>
      rename_i p
      cases q : look S l n with
      | none => simp only [q] at z; exact z.elim
      | some o =>
        cases o with
        | dead => simp only [q] at z; exact z.elim
        | box => simp only [q] at z; exact z.elim
        | lst xs =>
          simp only [q] at z
          obtain ⟨ws, hv, _, rr⟩ := s.obj l n _ p q e
          cases q2 : f xs with
          | none => simp only [q2] at z; exact z.elim
          | some ns => simp only [q2] at z; exact ⟨_, _, xs, ns, rfl, SqL.of hv, rr, q2, z⟩
  · exact z.elim
def gSum := gFold toInts fun ns => .int ns.sum
def gAll := gFold toBls fun ns => .bl (ns.all id)
def gAny := gFold toBls fun ns => .bl (ns.any id)
theorem ks_sum (hc : X.calm = true) : KS X (.builtin "sum") gSum := by
  refine ⟨_, cr_sum hc, fun W σ φ H S ds vs Q s r z => ?_⟩
  obtain ⟨a, ws, xs, ns, rfl, h1, h2, h3, z⟩ := fold_of s r z
  rw [toInts_eq h3] at h2
  rw [RelL.ints_inv h2] at h1
  exact ⟨a, ns, rfl, h1, z φ H _ (Le.refl _ _) s (.int _)⟩
theorem ks_all (hc : X.calm = true) : KS X (.builtin "all") gAll := by
  refine ⟨_, cr_all hc, fun W σ φ H S ds vs Q s r z => ?_⟩
  obtain ⟨a, ws, xs, ns, rfl, h1, h2, h3, z⟩ := fold_of s r z
  rw [toBls_eq h3] at h2
  rw [RelL.bls_inv h2] at h1
  exact ⟨a, ns, rfl, h1, z φ H _ (Le.refl _ _) s (.bl _)⟩
theorem ks_any (hc : X.calm = true) : KS X (.builtin "any") gAny := by
  refine ⟨_, cr_any hc, fun W σ φ H S ds vs Q s r z => ?_⟩
  obtain ⟨a, ws, xs, ns, rfl, h1, h2, h3, z⟩ := fold_of s r z
  rw [toBls_eq h3] at h2
  rw [RelL.bls_inv h2] at h1
  exact ⟨a, ns, rfl, h1, z φ H _ (Le.refl _ _) s (.bl _)⟩
def gTuple : List D → Sto → R D
  | [.tup xs], S => .ok (.tup xs) S
  | [.lst xs], S => .ok (.tup xs) S
  | [.rol xs], S => .ok (.tup xs) S
  | [.ref l n], S => match look S l n with
    | some (.lst xs) => .ok (.tup xs) S
    | _ => .bad
  | _, _ => .bad
theorem ks_tuple : KS X (.type "tuple") gTuple := by
  refine ⟨_, call_tuple_of, fun W σ φ H S ds vs Q s r z => ?_⟩
  unfold gTuple at z
  split at z
  · obtain ⟨v, rfl, r1⟩ := relL1 r rfl
    cases r1 with
    | tup zz f rr => exact ⟨_, _, rfl, .inr ⟨f.sq, z φ H _ (Le.refl _ _) s (.tup zz f rr)⟩⟩
  · obtain ⟨v, rfl, r1⟩ := relL1 r rfl
    cases r1 with
    | lst zz f w rr => exact ⟨_, _, rfl, .inl ⟨SqL.of f, fun p hp => z φ _ _ (Le.fresh hp) (s.laid hp) (.tup zz (.inl ⟨.inl upd_same, s.fresh hp⟩) (rr.laid hp))⟩⟩
  · obtain ⟨v, rfl, r1⟩ := relL1 r rfl
    cases r1 with
    | rol zz f rr => exact ⟨_, _, rfl, .inl ⟨f.sq, fun p hp => z φ _ _ (Le.fresh hp) (s.laid hp) (.tup zz (.inl ⟨.inl upd_same, s.fresh hp⟩) (rr.laid hp))⟩⟩
  · rename_i l n
    obtain ⟨v, rfl, r1⟩ := relL1 r rfl
    cases r1 with
    | ref e =>
      rename_i p0
      cases q : look S l n with
      | none => simp only [q] at z; exact z.elim
      | some o =>
        cases o with
        | dead => simp only [q] at z; exact z.elim
        | box => simp only [q] at z; exact z.elim
        | lst xs =>
          simp only [q] at z
          obtain ⟨vs, hv, zz, rr⟩ := s.obj l n _ p0 q e
          exact ⟨_, _, rfl, .inl ⟨SqL.of hv, fun p hp => z φ _ _ (Le.fresh hp) (s.laid hp) (.tup zz (.inl ⟨.inl upd_same, s.fresh hp⟩) (rr.laid hp))⟩⟩
  · exact z.elim
def gList : List D → Sto → R D
  | [.tup xs], S => .ok (.lst xs) S
  | [.lst xs], S => .ok (.lst xs) S
  | [.rol xs], S => .ok (.lst xs) S
  | [.ref l n], S => match look S l n with
    | some (.lst xs) => .ok (.lst xs) S
    | _ => .bad
  | _, _ => .bad
theorem ks_list : KS X (.type "list") gList := by
  refine ⟨_, call_list_of, fun W σ φ H S ds vs Q s r z => ?_⟩
  unfold gList at z
  split at z
  · obtain ⟨v, rfl, r1⟩ := relL1 r rfl
    cases r1 with
    | tup zz f rr => exact ⟨_, _, rfl, .inr f.sq, fun p hp => z φ _ _ (Le.fresh hp) (s.laid hp) (.lst zz upd_same (s.fresh hp) (rr.laid hp))⟩
  · obtain ⟨v, rfl, r1⟩ := relL1 r rfl
    cases r1 with
    | lst zz f w rr => exact ⟨_, _, rfl, .inl (SqL.of f), fun p hp => z φ _ _ (Le.fresh hp) (s.laid hp) (.lst zz upd_same (s.fresh hp) (rr.laid hp))⟩
  · obtain ⟨v, rfl, r1⟩ := relL1 r rfl
    cases r1 with
    | rol zz f rr => exact ⟨_, _, rfl, .inl f.sq, fun p hp => z φ _ _ (Le.fresh hp) (s.laid hp) (.lst zz upd_same (s.fresh hp) (rr.laid hp))⟩
  · rename_i l n
    obtain ⟨v, rfl, r1⟩ := relL1 r rfl
    cases r1 with
    | ref e =>
      rename_i p0
      cases q : look S l n with
      | none => simp only [q] at z; exact z.elim
      | some o =>
        cases o with
        | dead => simp only [q] at z; exact z.elim
        | box => simp only [q] at z; exact z.elim
        | lst xs =>
          simp only [q] at z
          obtain ⟨vs, hv, zz, rr⟩ := s.obj l n _ p0 q e
          exact ⟨_, _, rfl, .inl (SqL.of hv), fun p hp => z φ _ _ (Le.fresh hp) (s.laid hp) (.lst zz upd_same (s.fresh hp) (rr.laid hp))⟩
  · exact z.elim
/-- the same, a list that will be changed -/
def gListN (k : Nat) : List D → Sto → R D := fun ds S => (gList ds S).bind fun d S => match d with
  | .lst xs => match newAt k S (.lst xs) with
    | some (l, i, S') => if D.les l xs = true then .ok (.ref l i) S' else .bad
    | none => .bad
  | _ => .bad
theorem newN {K : PySem.W.Frag} {mg : Str → Option Value} {φ : Phi} {H : Hp} {S : Sto} {xs : List D} {vs : List V} {k : Nat} {E : Value → Option Addr → Hp → Prop} {Q : VK} (s : RS K φ H S) (zz : vs.length ≤ sizeLine) (rr : RelL K φ H xs vs)
    (z : Ok K mg (Rel K) φ H E Q (match newAt k S (.lst xs) with
    | some (l, i, S') => if D.les l xs = true then .ok (.ref l i) S' else .bad
    | none => .bad)) : ∀ p, H p = none → Q (.ref p) (upd H p (.lst vs)) := by
  intro p hp
  cases q : newAt k S (.lst xs) with
  | none => simp only [q] at z; exact z.elim
  | some t =>
    obtain ⟨l, i, S'⟩ := t
    simp only [q] at z
    by_cases hle : D.les l xs = true
    · simp only [hle, if_true] at z
      obtain ⟨φ', le, s', hq⟩ := s.newed (u := .lst vs) hp q hle fun φ' le => ⟨vs, upd_same, zz, rr.mono le⟩
      exact z φ' _ _ le s' (.ref hq)
    · simp only [hle] at z
      exact z.elim
theorem ks_listN (k : Nat) : KS X (.type "list") (gListN k) := by
  refine ⟨_, call_list_of, fun W σ φ H S ds vs Q s r z => ?_⟩
  unfold gListN gList at z
  split at z
  · obtain ⟨v, rfl, r1⟩ := relL1 r rfl
    cases r1 with
    | tup zz f rr => exact ⟨_, _, rfl, .inr f.sq, newN s zz rr z⟩
  · obtain ⟨v, rfl, r1⟩ := relL1 r rfl
    cases r1 with
    | lst zz f w rr => exact ⟨_, _, rfl, .inl (SqL.of f), newN s zz rr z⟩
  · obtain ⟨v, rfl, r1⟩ := relL1 r rfl
    cases r1 with
    | rol zz f rr => exact ⟨_, _, rfl, .inl f.sq, newN s zz rr z⟩
  · rename_i l n
    obtain ⟨v, rfl, r1⟩ := relL1 r rfl
    cases r1 with
    | ref e =>
      rename_i p0
      cases q : look S l n with
      | none => simp only [q] at z; exact z.elim
      | some o =>
        cases o with
        | dead => simp only [q] at z; exact z.elim
        | box => simp only [q] at z; exact z.elim
        | lst xs =>
          simp only [q] at z
          obtain ⟨vs, hv, zz, rr⟩ := s.obj l n _ p0 q e
          exact ⟨_, _, rfl, .inl (SqL.of hv), newN s zz rr z⟩
  · exact z.elim
/-! ### isinstance with a built-in class -/
def D.tyName : D → Sto → String
  | .non, _ => "NoneType"
  | .bl _, _ => "bool"
  | .int _, _ => "int"
  | .str _, _ => "str"
  | .ty _, _ => "type"
  | .tup _, _ => "tuple"
  | .lst _, _ => "list"
  | .rol _, _ => "list"
  | .box (.dK _) _, _ => "dict"
  | .box _ _, _ => ""
  | .ref l n, S => match look S l n with
    | some (.lst _) => "list"
    | some (.box (.dK _) _) => "dict"
    | _ => ""
def gIsi : List D → Sto → R D
  | [x, .ty n], S => if x.tyName S = "type" ∨ x.tyName S = "" then .bad else match kitB (x.tyName S) n with
    | some b => .ok (.bl b) S
    | none => .bad
  | _, _ => .bad
theorem tyX_of {φ : Phi} {H : Hp} {S : Sto} {d : D} {v : V} (s : RS X.K φ H S) (r : Rel X.K φ H d v) (h : ¬ (d.tyName S = "type" ∨ d.tyName S = "")) : TyX X.K H v (.type (d.tyName S)) := by
  cases r with
  | non => exact .base .non
  | bl b => exact .base (.bl b)
  | int i => exact .base (.int i)
  | str x => exact .base (.str x)
  | ty n => exact absurd (.inl rfl) h
  | tup zz f rr =>
    rcases f with ⟨f | ⟨o, f⟩, _⟩ | f
    · exact .base (.tup f)
    · exact .fTuple f
    · rcases f with (f | ⟨_, f⟩) | ⟨o, its, n, h1, h2, _⟩
      · cases f
      · cases f
      · exact .kTuple h1 h2
  | lst zz f w rr => exact .base (.lst f)
  | rol zz f rr =>
    rcases f with ⟨f | ⟨o, f⟩, _⟩ | f
    · exact .base (.lst f)
    · exact .base (.frz f)
    · rcases f with (f | ⟨_, f⟩) | ⟨o, its, n, h1, h2, _⟩
      · cases f
      · cases f
      · exact .kList h1 h2
  | @box a vs ds b at_ n w rr =>
    cases b with
    | dK ks => exact .base (.dK at_.2)
    | dT ks => exact absurd (.inr rfl) h
    | ins c fs => exact absurd (.inr rfl) h
  | ref e =>
    rename_i l n p
    unfold D.tyName at h ⊢
    cases q : look S l n with
    | none => simp [q] at h
    | some o =>
      cases o with
      | dead => simp [q] at h
      | box b xs =>
        cases b with
        | dK ks =>
          obtain ⟨vs, hv, _⟩ := s.obj l n _ p q e
          simp only [q]
          exact .base (.dK hv.2)
        | dT ks => simp [q] at h
        | ins c fs => simp [q] at h
      | lst xs =>
        obtain ⟨vs, hv, _, _⟩ := s.obj l n _ p q e
        simp only [q]
        exact .base (.lst hv)
theorem ks_isi : KS X (.builtin "isinstance") gIsi := by
  refine ⟨_, call_isi, fun W σ φ H S ds vs Q s r z => ?_⟩
  unfold gIsi at z
  split at z
  · rename_i x n
    obtain ⟨v, w, rfl, r1, r2⟩ := relL2 r rfl
    cases r2
    by_cases h : x.tyName S = "type" ∨ x.tyName S = ""
    · simp only [h, if_true] at z; exact z.elim
    · simp only [h, if_false] at z
      cases q : kitB (x.tyName S) n with
      | none => simp only [q] at z; exact z.elim
      | some b =>
        simp only [q] at z
        exact ⟨v, .ty n, _, _, b, rfl, .ty n, tyX_of s r1 h, kit_ty q, z φ H _ (Le.refl _ _) s (.bl b)⟩
  · exact z.elim
end
end MP

/-! MP: comprehensions, calls, defs, the law's end. -/
namespace MP
open PySem PySem.Spec PyProof.Rows L2

/-! ### comprehensions -/
def R.calm {α : Type} : R α → R α
  | .err _ _ => .bad
  | r => r
@[simp] theorem R.calm_ok {α : Type} (a : α) (S : Sto) : (R.ok a S).calm = .ok a S := (rfl)
@[simp] theorem R.calm_bad {α : Type} : (R.bad : R α).calm = .bad := (rfl)
def wipeR (ρ : Ro) : List Nat → Ro
  | [] => ρ
  | v :: vs => (wipeR ρ vs).set v none
theorem RE.wipe {K : PySem.W.Frag} {φ : Phi} {H : Hp} {ρ : Ro} {σ : L2.St} (h : RE K φ H ρ σ) : ∀ vs : List Nat, RE K φ H (wipeR ρ vs) (L2.wipe σ vs)
  | [] => h
  | v :: vs => by
    have ih := RE.wipe h vs
    show RE K φ H ((wipeR ρ vs).set v none) ((L2.wipe σ vs).set v none)
    refine ⟨by simpa using ih.1, fun j d q => ?_⟩
    by_cases e : v = j
    · subst e
      have hl : v < (wipeR ρ vs).length := by
        have := (List.getElem?_eq_some_iff.mp q).1
        simpa using this
      rw [List.getElem?_set_self hl] at q
      cases q
    · rw [List.getElem?_set_ne e] at q
      rw [List.getElem?_set_ne e]
      exact ih.2 j d q
def lcL (t : Tg) (q : CT) (e : C) (ρ : Ro) : List D → Sto → R (List D)
  | [], S => .ok [] S
  | d :: ds, S => match t d ρ with
    | some ρ1 => (q ρ1 S).calm.bind fun k S1 => if k = true then (e ρ1 S1).calm.bind fun y S2 => (lcL t q e ρ ds S2).bind fun ys S3 => .ok (y :: ys) S3 else lcL t q e ρ ds S1
    | none => .bad
def ctYes : CT := fun _ S => .ok true S
/-- [e for t in iter if q], a list that isn't changed any more -/
def cLc (ci : CI) (t : Tg) (q : CT) (e : C) (vs : List Nat) : C := fun ρ S => (ci ρ S).bind fun ds S => if ds.length ≤ 16000000 then (lcL t q e (wipeR ρ vs) ds S).bind fun ys S => .ok (.lst ys) S else .bad
structure MTs (X : Cx) (W : WX) (es : List Expr) (c : CT) : Prop where
  pt : PTs X es (rdT X W c)
theorem _root_.L2.PTs.imp {X : Cx} {es : List Expr} {t u : TT} (h : PTs X es t) (k : ∀ σ H Q, u σ H Q → t σ H Q) : PTs X es u := ⟨fun pins s σ H Q I z => h.run pins s σ H Q I (k σ H Q z)⟩
theorem mts_nil {X : Cx} {W : WX} : MTs X W [] ctYes := ⟨pts_nil.imp fun σ H Q h => by
  obtain ⟨ρ, φ, S, hE, hs, h⟩ := h
  exact h φ H true (Le.refl _ _) hs rfl⟩
theorem mts_one {X : Cx} {W : WX} {e : Expr} {c : CT} (h : MT X W e c) : MTs X W [e] c := ⟨pts_one h.pt⟩
/-- nothing is let out -/
abbrev W0 : WX := fun _ _ _ _ => False
section
variable {K : PySem.W.Frag} {φ : Phi} {H : Hp} {S : Sto} {p : Addr}
/-- a private list begins -/
theorem Le.prive (hp : H p = none) (u : HO) : Le φ H ⟨φ.r, p :: φ.p⟩ (upd H p u) :=
  ⟨rfl, fun _ _ _ e => e, fun a w e aw => ⟨upd_some hp e, aw.1, fun z => by
    rcases List.mem_cons.mp z with z | z
    · rw [z, hp] at e; cases e
    · exact aw.2 z⟩, fun _ e => List.mem_cons_of_mem _ e, fun a w _ e => upd_some hp e⟩
theorem RS.prive (s : RS K φ H S) (hp : H p = none) (u : HO) : RS K ⟨φ.r, p :: φ.p⟩ (upd H p u) S := by
  have le : Le φ H ⟨φ.r, p :: φ.p⟩ (upd H p u) := Le.prive hp u
  refine ⟨s.shape, fun l i o a e1 e2 => ?_, s.inj, s.lev, fun l i a e => ?_, fun a e => ?_, fun l i a e z => ?_⟩
  · exact (s.obj l i o a e1 e2).tr le.stay le.grow fun _ e => upd_some hp e
  · have := s.trk _ _ _ e
    cases z : H a with
    | none => exact absurd z this
    | some w => rw [upd_some hp z]; simp
  · rcases List.mem_cons.mp e with e | e
    · rw [e, upd_same]; simp
    · have := s.ptrk a e
      cases z : H a with
      | none => exact absurd z this
      | some w => rw [upd_some hp z]; simp
  · rcases List.mem_cons.mp z with z | z
    · rw [z] at e
      exact (s.fresh hp).1 _ _ e
    · exact s.dis _ _ _ e z
/-- a private list is changed -/
theorem Le.priv (s : RS K φ H S) (hp : p ∈ φ.p) (u : HO) (φ0 : Phi) (H0 : Hp) (h0 : H0 p = none) (e : Le φ0 H0 φ H) : Le φ0 H0 φ (upd H p u) :=
  ⟨e.dep, e.grow, fun a w q aw => ⟨by rw [upd_ne (ne_of_none q h0)]; exact (e.stay a w q aw).1, (e.stay a w q aw).2⟩, e.prv, fun a w q z => by rw [upd_ne (ne_of_none z h0)]; exact e.pst a w q z⟩
theorem stays_priv (u : HO) (hp : p ∈ φ.p) : Stays φ H φ (upd H p u) := fun a o e w => ⟨by rw [upd_ne (fun z => by rw [z] at w; exact w.2 hp)]; exact e, w⟩
theorem Rel.priv (u : HO) (hp : p ∈ φ.p) {d : D} {v : V} (h : Rel K φ H d v) : Rel K φ (upd H p u) d v := h.tr (stays_priv u hp) fun _ _ _ e => e
theorem RelL.priv (u : HO) (hp : p ∈ φ.p) {ds : List D} {vs : List V} (h : RelL K φ H ds vs) : RelL K φ (upd H p u) ds vs := h.tr (stays_priv u hp) fun _ _ _ e => e
theorem RS.priv (s : RS K φ H S) (hp : p ∈ φ.p) (u : HO) : RS K φ (upd H p u) S := by
  refine ⟨s.shape, fun l i o a e1 e2 => ?_, s.inj, s.lev, fun l i a e => ?_, fun a e => ?_, s.dis⟩
  · have na : a ≠ p := fun z => by rw [z] at e2; exact s.dis _ _ _ e2 hp
    exact (s.obj l i o a e1 e2).tr (stays_priv u hp) (fun _ _ _ e => e) fun _ e => by rw [upd_ne na]; exact e
  · have na : a ≠ p := fun z => by rw [z] at e; exact s.dis _ _ _ e hp
    rw [upd_ne na]
    exact s.trk _ _ _ e
  · by_cases q : a = p
    · rw [q, upd_same]; simp
    · rw [upd_ne q]; exact s.ptrk _ e
theorem RE.priv {ρ : Ro} {σ : L2.St} (h : RE K φ H ρ σ) (hp : p ∈ φ.p) (u : HO) : RE K φ (upd H p u) ρ σ :=
  ⟨h.1, fun i d q => let ⟨v, a, b⟩ := h.2 i d q; ⟨v, a, b.priv u hp⟩⟩
/-- it is private no more -/
def Phi.out (φ : Phi) (p : Addr) : Phi := ⟨φ.r, φ.p.filter (· ≠ p)⟩
theorem Away.out {a : Addr} (h : Away φ a) : Away (φ.out p) a := ⟨h.1, fun z => h.2 (List.mem_filter.mp z).1⟩
theorem stays_out : Stays φ H (φ.out p) H := fun a o e w => ⟨e, w.out⟩
theorem Rel.out {d : D} {v : V} (h : Rel K φ H d v) : Rel K (φ.out p) H d v := h.tr stays_out fun _ _ _ e => e
theorem RelL.out {ds : List D} {vs : List V} (h : RelL K φ H ds vs) : RelL K (φ.out p) H ds vs := h.tr stays_out fun _ _ _ e => e
theorem RS.out (s : RS K φ H S) : RS K (φ.out p) H S := by
  refine ⟨s.shape, fun l i o a e1 e2 => ?_, s.inj, s.lev, s.trk, fun a e => s.ptrk a (List.mem_filter.mp e).1, fun l i a e z => s.dis l i a e (List.mem_filter.mp z).1⟩
  exact (s.obj l i o a e1 e2).tr stays_out (fun _ _ _ e => e) fun _ e => e
theorem Le.out {φ0 : Phi} {H0 : Hp} (s0 : RS K φ0 H0 S) (h0 : H0 p = none) (e : Le φ0 H0 φ H) : Le φ0 H0 (φ.out p) H :=
  ⟨e.dep, e.grow, fun a w q aw => ⟨(e.stay a w q aw).1, (e.stay a w q aw).2.out⟩, fun a q => List.mem_filter.mpr ⟨e.prv a q, by
    have := s0.ptrk a q
    simp only [ne_eq, decide_not, Bool.not_eq_eq_eq_not, Bool.not_true, decide_eq_false_iff_not]
    intro z
    rw [z] at this
    exact this h0⟩, e.pst⟩
end
theorem lc_imp {X : Cx} {W : WX} {B : Cx → Prop} {t : Tg} {sl : List Nat} {g : TG} {q : CT} {e : C} {ci : CI} {vs : List Nat} (gs : GS X.K g t sl) (hsl : ∀ i ∈ sl, i ∈ vs) {tt : TT} {te : TE}
    (htt : ∀ σ H Q, (∃ ρ φ S, RE X.K φ H ρ σ ∧ RS X.K φ H S ∧ Ok X.K X.mg eqB φ H (fun _ _ _ => False) Q (q ρ S)) → tt σ H Q)
    (hte : ∀ σ H Q, (∃ ρ φ S, RE X.K φ H ρ σ ∧ RS X.K φ H S ∧ Ok X.K X.mg (Rel X.K) φ H (fun _ _ _ => False) Q (e ρ S)) → te σ H Q)
    {σ : L2.St} {H : Hp} {Q : VK} (h : rdE X W (cLc ci t q e vs) σ H Q) : tLc (rdI X W ci) g tt te vs σ H Q := by
  obtain ⟨ρ, φ, S, hE, hs, h⟩ := h
  refine ⟨ρ, φ, S, hE, hs, h.step fun ds S1 φ1 H1 J qq l s ir z => ?_⟩
  intro P hP
  by_cases hlen : ds.length ≤ 16000000
  case neg =>
    simp only [hlen, if_false] at z
    exact z.elim
  simp only [hlen, if_true] at z
  have hE1 := hE.mono l
  have leP : Le φ1 H1 ⟨φ1.r, P :: φ1.p⟩ (upd H1 P (.lst [])) := Le.prive hP _
  refine ⟨fun i m H' => i + m = ds.length ∧ ∃ φ' S' ys ws, Le φ1 H1 φ' H' ∧ P ∈ φ'.p ∧ RE X.K φ' H' (wipeR ρ vs) (L2.wipe σ vs) ∧ RS X.K φ' H' S' ∧ H' P = some (.lst ws) ∧ RelL X.K φ' H' ys ws ∧ ws.length ≤ i ∧
      Ok X.K X.mg (Rel X.K) φ1 H1 (fun cls d H' => W cls d σ H') Q ((lcL t q e (wipeR ρ vs) (ds.drop i) S').bind fun zs S => .ok (.lst (ys ++ zs)) S),
    ⟨ds.length, by omega, _, S1, [], [], leP, List.mem_cons_self, (hE1.mono leP).wipe vs, s.prive hP _, upd_same, .nil, by simp, z⟩, ?_⟩
  rintro i m H' ⟨em, φ', S', ys, ws, l', mp, hE', s', hP', rr, hwl, z⟩
  by_cases hi : i < ds.length
  · have hd : ds.drop i = ds[i] :: ds.drop (i + 1) := List.drop_eq_getElem_cons hi
    rw [hd] at z
    unfold lcL at z
    cases qt : t ds[i] (wipeR ρ vs) with
    | none => simp only [qt] at z; exact z.elim
    | some ρ1 =>
      simp only [qt] at z
      refine .inr ⟨ir.go φ' H' l' i hi, fun H4 => ∃ φ' S' ys ws, Le φ1 H1 φ' H4 ∧ P ∈ φ'.p ∧ RE X.K φ' H4 (wipeR ρ vs) (L2.wipe σ vs) ∧ RS X.K φ' H4 S' ∧ H4 P = some (.lst ws) ∧ RelL X.K φ' H4 ys ws ∧ ws.length ≤ i + 1 ∧
        Ok X.K X.mg (Rel X.K) φ1 H1 (fun cls d H' => W cls d σ H') Q ((lcL t q e (wipeR ρ vs) (ds.drop (i + 1)) S').bind fun zs S => .ok (.lst (ys ++ zs)) S), fun H4 n => ⟨m - 1, by omega, by omega, n⟩, fun x H4 y => ?_⟩
      obtain ⟨l4, s4, rx⟩ := ir.yld φ' H' S' l' s' i ds[i] x H4 (by simp [hi]) y
      refine gs.go φ' H4 _ x (wipeR ρ vs) ρ1 (L2.wipe σ vs) _ rx (hE'.mono l4) qt fun σ1 re1 only => ⟨by rw [only vs hsl, wipe_idem], htt _ _ _ ⟨ρ1, φ', S', re1, s4, ?_⟩⟩
      have hP4 : H4 P = some (.lst ws) := l4.pst P _ mp hP'
      have rr4 := RelL.mono l4 rr
      cases q1 : q ρ1 S' with
      | bad => rw [q1] at z; exact z.elim
      | err x S2 => rw [q1] at z; exact z.elim
      | ok k S2 =>
        simp only [q1, R.calm_ok, R.bind_ok] at z
        intro φ5 H5 k' l5 s5 ek
        cases ek
        have mp5 := l5.prv P mp
        have hP5 : H5 P = some (.lst ws) := l5.pst P _ mp hP4
        have lt5 : Le φ1 H1 φ5 H5 := (l'.trans l4).trans l5
        cases k with
        | false =>
          simp only [Bool.false_eq_true, if_false] at z ⊢
          exact ⟨φ5, S2, ys, ws, lt5, mp5, ((hE'.mono l4).mono l5), s5, hP5, RelL.mono l5 rr4, by omega, z⟩
        | true =>
          simp only [if_true] at z ⊢
          refine hte _ _ _ ⟨ρ1, φ5, S2, re1.mono l5, s5, ?_⟩
          cases q2 : e ρ1 S2 with
          | bad => rw [q2] at z; exact z.elim
          | err x S3 => rw [q2] at z; exact z.elim
          | ok yv S3 =>
            simp only [q2, R.calm_ok, R.bind_ok] at z
            intro φ6 H6 v l6 s6 rv
            have mp6 := l6.prv P mp5
            have hP6 : H6 P = some (.lst ws) := l6.pst P _ mp5 hP5
            have lt6 := lt5.trans l6
            refine ⟨ws, hP6, line_gt (by omega), φ6, S3, ys ++ [yv], ws ++ [v], Le.priv s6 mp6 _ φ1 H1 hP lt6, mp6, ?_, s6.priv mp6 _, upd_same, ?_, by simp; omega, ?_⟩
            · exact (((hE'.mono l4).mono l5).mono l6).priv mp6 _
            · exact RelL.priv _ mp6 ((RelL.mono l6 (RelL.mono l5 rr4)).append (.cons rv .nil))
            · revert z
              cases lcL t q e (wipeR ρ vs) (ds.drop (i + 1)) S3 with
              | ok zs S4 =>
                simp only [R.bind_ok, List.append_assoc, List.cons_append, List.nil_append]
                exact id
              | err x S4 => exact id
              | bad => exact id
  · have e2 : i = ds.length := by omega
    subst e2
    rw [List.drop_length] at z
    simp only [lcL, R.bind_ok, List.append_nil] at z
    refine .inl ⟨ir.stop φ' H' l', z (φ'.out P) H' _ (Le.out s hP l') s'.out (.lst (line_ge (by omega)) hP' ⟨fun lv j e => s'.dis lv j P e mp, fun q => ?_⟩ (RelL.out rr))⟩
    have := (List.mem_filter.mp q).2
    simp at this
section
variable {X : Cx} {W : WX} {elt tg iter : Expr} {ifs : List Expr} {scope : Scope} {own : List (Str × Nat)} {pos : Pos} {ci : CI} {t : Tg} {sl : List Nat} {q : CT} {e : C}
/-- what a block's context is -/
abbrev Blk (X : Cx) (scope : Scope) (B : Cx → Prop) : Prop := ∀ (s : Shared) (H : Hp) (C : Addr) (cl : List (Str × Addr)) (fp : List Addr), B (X.blk s H scope (compEnvC scope cl C X.env) fp)
theorem me_lc (hc : X.calm = true) (hN : X.N.Nodup) (hi : MI X W tg iter ci) (ok : BlkOk X.N X.env.scope scope own)
    (hg : ∃ g, GS X.K g t sl ∧ Blk X scope fun Y => PG Y tg g) (ht : Blk X scope fun Y => MTs Y W0 ifs q) (he : Blk X scope fun Y => ME Y W0 elt e) (hsl : ∀ i ∈ sl, i ∈ own.map (·.2) := by decide) (hs : ∀ x, foldedSetIterable iter X.env x = pure x := by intro _; rfl) :
    ME X W (.ListComp elt [⟨tg, iter, ifs, 0⟩] scope pos) (cLc ci t q e (own.map (·.2))) := by
  obtain ⟨g, gs, hg⟩ := hg
  let tt : TT := fun σ H Q => ∃ ρ φ S, RE X.K φ H ρ σ ∧ RS X.K φ H S ∧ Ok X.K X.mg eqB φ H (fun _ _ _ => False) Q (q ρ S)
  let te : TE := fun σ H Q => ∃ ρ φ S, RE X.K φ H ρ σ ∧ RS X.K φ H S ∧ Ok X.K X.mg (Rel X.K) φ H (fun _ _ _ => False) Q (e ρ S)
  exact ⟨(pe_lc (tt := tt) (te := te) hc hN hi.pi ok hg (fun s H C cl fp => (ht s H C cl fp).pt) (fun s H C cl fp => (he s H C cl fp).pe) hs).imp fun σ H Q h => lc_imp (B := fun _ => True) gs hsl (fun _ _ _ z => z) (fun _ _ _ z => z) h⟩
theorem ms_setLc (i : Nat) {y : Str} {py spos : Pos} (hc : X.calm = true) (hN : X.N.Nodup) (hy : X.N[i]? = some y) (hyl : X.env.scope.names.lookup y = some .local)
    (hsw : swapsWith (.ListComp elt [⟨tg, iter, ifs, 0⟩] scope pos) (some (.Name y py)) spos.line X.env = pure true) (hi : MI X W tg iter ci) (ok : BlkOk X.N X.env.scope scope own)
    (hg : ∃ g, GS X.K g t sl ∧ Blk X scope fun Y => PG Y tg g) (ht : Blk X scope fun Y => MTs Y W0 ifs q) (he : Blk X scope fun Y => ME Y W0 elt e) (hsl : ∀ i ∈ sl, i ∈ own.map (·.2) := by decide) (hs : ∀ x, foldedSetIterable iter X.env x = pure x := by intro _; rfl) :
    MS X W (.Assign [.Name y py] (.ListComp elt [⟨tg, iter, ifs, 0⟩] scope pos) spos) (cAsg (tgN i) (cLc ci t q e (own.map (·.2)))) := by
  obtain ⟨g, gs, hg⟩ := hg
  let tt : TT := fun σ H Q => ∃ ρ φ S, RE X.K φ H ρ σ ∧ RS X.K φ H S ∧ Ok X.K X.mg eqB φ H (fun _ _ _ => False) Q (q ρ S)
  let te : TE := fun σ H Q => ∃ ρ φ S, RE X.K φ H ρ σ ∧ RS X.K φ H S ∧ Ok X.K X.mg (Rel X.K) φ H (fun _ _ _ => False) Q (e ρ S)
  refine ⟨(L2.ps_setLc (tt := tt) (te := te) (i := i) hc hN hy hyl hsw hi.pi ok hg (fun s H C cl fp => (ht s H C cl fp).pt) (fun s H C cl fp => (he s H C cl fp).pe) hs).imp fun D' σ H h => ?_⟩
  have h2 := asg_imp (te := rdE X W (cLc ci t q e (own.map (·.2)))) (gs_name i) h
  exact lc_imp (B := fun _ => True) gs hsl (fun _ _ _ z => z) (fun _ _ _ z => z) h2
/-- targets in a block -/
theorem bg_name (i : Nat) {x : Str} {pos : Pos} (h : Blk X scope fun Y => PG Y (.Name x pos) (gName i)) : ∃ g, GS X.K g (tgN i) [i] ∧ Blk X scope fun Y => PG Y (.Name x pos) g := ⟨gName i, gs_name i, h⟩
end

/-! ### calls of the program's defs -/
abbrev Sem' := List D → Sto → R D
/-- the promise of a def whose meaning is f -/
def spM (K : PySem.W.Frag) (mg : Str → Option Value) (n : Nat) (f : Sem') : Sp := fun vs H Q E => vs.length = n ∧ ∃ ds φ S, RelL K φ H ds vs ∧ RS K φ H S ∧ Ok K mg (Rel K) φ H E Q (f ds S)
structure FM (P : Program) (w : World) (K : PySem.W.Frag) (mg : Str → Option Value) (base : Heap) (k : Nat) (f : Addr) (fd : FuncData) (ps : List Str) (m : Sem') : Prop where
  ok : FnOk P w K mg base (L2.CX P w) k f fd ps (spM K mg ps.length m)
  kp : PySem.W.keepIn K (.ref f) = true
section
variable {X : Cx} {W : WX} {k : Nat} {f : Addr} {fd : FuncData} {ps : List Str} {m : Sem'} {x : Str} {p pos : Pos} {e : Expr} {es : List Expr} {ca : CA}
theorem me_call (F : FM X.prog X.w X.K X.mg X.base k f fd ps m) (tk : Takes X W) (hr : Room k X.A) (hg : Gl X x) (hm : X.mg x = some (.ref f)) (hb : Binds X.K fd ps []) (ha : MA X W (e :: es) ca)
    (hl : (e :: es).length = ps.length := by rfl) (hdb : (x == ("__debug__" : Str)) = false := by decide) (he : starEach (e :: es) X.env = (false, eval e X.env) :: starEach es X.env := by rfl) (hpl : (backTo pos (starEach es X.env)).any (·.1) = false := by rfl) :
    ME X W (.Call (.Name x p) (e :: es) [] pos) (cCall m ca) := by
  refine ⟨(pe_callS (E := WE W) F.ok hr hg hm F.kp hb (passAt tk) ha.pa hdb he hpl).imp fun σ H Q h => ?_⟩
  obtain ⟨ρ, φ, S, hE, hs, h⟩ := h
  exact ⟨ρ, φ, S, hE, hs, Ok.stepA ha h fun ds S1 φ1 H1 vs l1 l2 l s r z => ⟨by rw [l2]; exact hl, ds, φ1, S1, r, s, z⟩⟩
theorem me_call0 (F : FM X.prog X.w X.K X.mg X.base k f fd [] m) (tk : Takes X W) (hr : Room k X.A) (hg : Gl X x) (hm : X.mg x = some (.ref f)) (hb : Binds X.K fd [] [])
    (hdb : (x == ("__debug__" : Str)) = false := by decide) : ME X W (.Call (.Name x p) [] [] pos) (cCall m caNil) := by
  refine ⟨⟨fun pins s σ H Q I h => ?_⟩⟩
  obtain ⟨ρ, φ, S, hE, hs, h⟩ := h
  refine wpAny_Call_Name_kw (ld_glob I hg hm ?_ hdb)
  refine PySem.W.callWith_K0 I.kIn F.kp ?_
  exact run_fnS (E := WE W) (us := []) (vs := []) F.ok hr hb (passAt tk σ) I .nil ⟨rfl, [], φ, S, .nil, hs, h⟩
end

/-! ### defs -/
/-- what a def hands out: changeable things of its own level become trees -/
def mapO {α : Type} (f : α → Option α) : List α → Option (List α)
  | [] => some []
  | x :: xs => match f x with
    | some y => match mapO f xs with
      | some ys => some (y :: ys)
      | none => none
    | none => none
def D.fz (r : List O) (l : Nat) : Nat → D → Option D
  | 0, _ => none
  | n + 1, d => match d with
    | .ref k i => if k = l then match r[i]? with
        | some (.lst xs) => match mapO (D.fz r l n) xs with
          | some ys => some (.lst ys)
          | none => none
        | some (.box b xs) => match mapO (D.fz r l n) xs with
          | some ys => some (.box b ys)
          | none => none
        | _ => none
      else some (.ref k i)
    | .tup xs => match mapO (D.fz r l n) xs with
      | some ys => some (.tup ys)
      | none => none
    | .lst xs => match mapO (D.fz r l n) xs with
      | some ys => some (.lst ys)
      | none => none
    | .rol xs => match mapO (D.fz r l n) xs with
      | some ys => some (.rol ys)
      | none => none
    | .box b xs => match mapO (D.fz r l n) xs with
      | some ys => some (.box b ys)
      | none => none
    | d => some d
def leave (d : D) : Sto → R D
  | [] => .bad
  | [] :: S => .ok d S
  | r :: S => match D.fz r S.length 40 d with
    | some d' => .ok d' S
    | none => .bad
def fzF (r : List O) (l : Nat) : List (Str × D) → Option (List (Str × D))
  | [] => some []
  | (x, d) :: fs => match D.fz r l 40 d with
    | some d' => match fzF r l fs with
      | some gs => some ((x, d') :: gs)
      | none => none
    | none => none
def leaveX (x : Exn) : Sto → R D
  | [] => .bad
  | r :: S => match fzF r S.length x.fs with
    | some fs => .err ⟨x.c, fs⟩ S
    | none => .bad
def runF (n : Nat) (body : CS) : Sem' := fun args S => match body (args.map some ++ List.replicate (n - args.length) none) ([] :: S) with
  | .nx _ S' => leave .non S'
  | .ret d S' => leave d S'
  | .err x _ S' => leaveX x S'
  | _ => .bad
section
variable {K : PySem.W.Frag} {φ : Phi} {H : Hp} {S : Sto}
/-- the level is laid down -/
theorem away_push {a : Addr} {ψ : List Addr} (h : Away ⟨ψ :: φ.r, φ.p⟩ a) : Away φ a := ⟨fun l i e => h.1 l i (look_push ψ e), h.2⟩
theorem away_new {a : Addr} (h : Away φ a) : Away ⟨[] :: φ.r, φ.p⟩ a := ⟨fun l i e => by
  have e' : look ([] :: φ.r) l i = some a := e
  rw [look] at e'
  split at e'
  · simp at e'
  · exact h.1 _ _ e', h.2⟩
theorem stays_enter : Stays φ H ⟨[] :: φ.r, φ.p⟩ H := fun a o e w => ⟨e, away_new w⟩
theorem Rel.enter {d : D} {v : V} (h : Rel K φ H d v) : Rel K ⟨[] :: φ.r, φ.p⟩ H d v := h.tr stays_enter fun _ _ _ e => look_push _ e
theorem RelL.enter {ds : List D} {vs : List V} (h : RelL K φ H ds vs) : RelL K ⟨[] :: φ.r, φ.p⟩ H ds vs := h.tr stays_enter fun _ _ _ e => look_push _ e
theorem RO.enter {o : O} {a : Addr} (h : RO K φ H o a) : RO K ⟨[] :: φ.r, φ.p⟩ H o a := h.tr stays_enter (fun _ _ _ e => look_push _ e) fun _ e => e
theorem look_enter {α : Type} {rs : List (List α)} {l i : Nat} {a : α} (e : look ([] :: rs) l i = some a) : look rs l i = some a := by
  rw [look] at e
  split at e
  · simp at e
  · exact e
theorem RS.enter (s : RS K φ H S) : RS K ⟨[] :: φ.r, φ.p⟩ H ([] :: S) :=
  ⟨by simp [s.shape], fun l i o a e1 e2 => (s.obj l i o a (look_enter e1) (look_enter e2)).enter, fun l i l' i' a e1 e2 => s.inj l i l' i' a (look_enter e1) (look_enter e2), fun l i o e => s.lev l i o (look_enter e), fun l i a e => s.trk l i a (look_enter e), s.ptrk, fun l i a e => s.dis l i a (look_enter e)⟩
mutual
/-- what refers to the levels below alone -/
theorem Rel.exit {ψ : List Addr} {l : Nat} (hl : l < φ.r.length) : ∀ {d : D} {v : V}, Rel K ⟨ψ :: φ.r, φ.p⟩ H d v → d.le l = true → Rel K φ H d v
  | _, _, .non, _ => .non
  | _, _, .bl b, _ => .bl b
  | _, _, .int i, _ => .int i
  | _, _, .str x, _ => .str x
  | _, _, .ty n, _ => .ty n
  | _, _, .tup z f r, h => .tup z (by
      rcases f with ⟨f, w⟩ | f
      · exact .inl ⟨f, away_push w⟩
      · exact .inr f) (RelL.exit hl r (by simpa [D.le] using h))
  | _, _, .lst z f w r, h => .lst z f (away_push w) (RelL.exit hl r (by simpa [D.le] using h))
  | _, _, .rol z f r, h => .rol z (by
      rcases f with ⟨f, w⟩ | f
      · exact .inl ⟨f, away_push w⟩
      · exact .inr f) (RelL.exit hl r (by simpa [D.le] using h))
  | _, _, .box b n w r, h => .box (b.tr (fun _ e => e) fun _ _ e w => ⟨e, away_push w⟩) n (away_push w) (RelL.exit hl r (by simpa [D.le] using h))
  | _, _, .ref (l := k) (i := i) e, h => .ref (by
      have hk : k ≤ l := by simpa [D.le] using h
      have e' : look (ψ :: φ.r) k i = some _ := e
      rw [look_low ψ i (by omega)] at e'
      exact e')
theorem RelL.exit {ψ : List Addr} {l : Nat} (hl : l < φ.r.length) : ∀ {ds : List D} {vs : List V}, RelL K ⟨ψ :: φ.r, φ.p⟩ H ds vs → D.les l ds = true → RelL K φ H ds vs
  | _, _, .nil, _ => .nil
  | _, _, .cons h r, q => by
    simp only [D.les, Bool.and_eq_true] at q
    exact .cons (Rel.exit hl h q.1) (RelL.exit hl r q.2)
end
theorem RS.exit {ψ : List Addr} {r : List O} (s : RS K ⟨ψ :: φ.r, φ.p⟩ H (r :: S)) : RS K φ H S := by
  have sh := s.shape
  simp only [List.map_cons, List.cons.injEq] at sh
  have hlen : φ.r.length = S.length := by have := congrArg List.length sh.2; simpa using this
  refine ⟨sh.2, fun l i o a e1 e2 => ?_, fun l i l' i' a e1 e2 => s.inj l i l' i' a (look_push ψ e1) (look_push ψ e2), fun l i o e => s.lev l i o (look_push r e), fun l i a e => s.trk l i a (look_push ψ e), s.ptrk, fun l i a e => s.dis l i a (look_push ψ e)⟩
  have h := s.obj l i o a (look_push r e1) (look_push ψ e2)
  have lv := s.lev l i o (look_push r e1)
  have hl : l < φ.r.length := look_lt e2
  cases o with
  | lst ds =>
    obtain ⟨vs, v1, v2, v3⟩ := h
    exact ⟨vs, v1, v2, RelL.exit hl v3 lv⟩
  | box b ds =>
    obtain ⟨vs, v1, v3⟩ := h
    exact ⟨vs, v1.tr (fun _ e => e) fun _ _ e w => ⟨e, away_push w⟩, RelL.exit hl v3 lv⟩
  | dead => trivial
theorem mapO_rel {α β : Type} {f : α → Option α} : True := trivial
theorem Rel.fz {ψ : List Addr} {r : List O} (s : RS K ⟨ψ :: φ.r, φ.p⟩ H (r :: S)) : ∀ (n : Nat) {d d' : D} {v : V}, Rel K ⟨ψ :: φ.r, φ.p⟩ H d v → D.fz r S.length n d = some d' → Rel K φ H d' v := by
  intro n
  have sh := s.shape
  simp only [List.map_cons, List.cons.injEq] at sh
  have hlen : φ.r.length = S.length := by have := congrArg List.length sh.2; simpa using this
  induction n with
  | zero => intro d d' v _ h; cases h
  | succ n ih =>
    have many : ∀ {ds ds' : List D} {vs : List V}, RelL K ⟨ψ :: φ.r, φ.p⟩ H ds vs → mapO (D.fz r S.length n) ds = some ds' → RelL K φ H ds' vs := by
      intro ds
      induction ds with
      | nil =>
        intro ds' vs q h
        cases q
        simp only [mapO, Option.some.injEq] at h
        subst h
        exact .nil
      | cons d ds ihl =>
        intro ds' vs q h
        cases q with
        | cons q1 q2 =>
          unfold mapO at h
          cases z1 : D.fz r S.length n d with
          | none => simp only [z1] at h; cases h
          | some y =>
            simp only [z1] at h
            cases z2 : mapO (D.fz r S.length n) ds with
            | none => simp only [z2] at h; cases h
            | some ys =>
              simp only [z2, Option.some.injEq] at h
              subst h
              exact .cons (ih q1 z1) (ihl q2 z2)
    intro d d' v q h
    cases q with
    | non => cases h; exact .non
    | bl b => cases h; exact .bl b
    | int i => cases h; exact .int i
    | str x => cases h; exact .str x
    | ty n => cases h; exact .ty n
    | tup z f rr =>
      rename_i a vs ds
      unfold D.fz at h
      cases z2 : mapO (D.fz r S.length n) ds with
      | none => simp only [z2] at h; cases h
      | some ys =>
        simp only [z2, Option.some.injEq] at h
        subst h
        refine .tup z ?_ (many rr z2)
        rcases f with ⟨f, w⟩ | f
        · exact .inl ⟨f, away_push w⟩
        · exact .inr f
    | lst z f w rr =>
      rename_i a vs ds
      unfold D.fz at h
      cases z2 : mapO (D.fz r S.length n) ds with
      | none => simp only [z2] at h; cases h
      | some ys =>
        simp only [z2, Option.some.injEq] at h
        subst h
        exact .lst z f (away_push w) (many rr z2)
    | rol z f rr =>
      rename_i a vs ds
      unfold D.fz at h
      cases z2 : mapO (D.fz r S.length n) ds with
      | none => simp only [z2] at h; cases h
      | some ys =>
        simp only [z2, Option.some.injEq] at h
        subst h
        refine .rol z ?_ (many rr z2)
        rcases f with ⟨f, w⟩ | f
        · exact .inl ⟨f, away_push w⟩
        · exact .inr f
    | box b nn w rr =>
      rename_i a vs ds bx
      unfold D.fz at h
      cases z2 : mapO (D.fz r S.length n) ds with
      | none => simp only [z2] at h; cases h
      | some ys =>
        simp only [z2, Option.some.injEq] at h
        subst h
        exact .box (b.tr (fun _ e => e) fun _ _ e w => ⟨e, away_push w⟩) nn (away_push w) (many rr z2)
    | ref e =>
      rename_i l i a
      unfold D.fz at h
      by_cases hk : l = S.length
      · simp only [hk, if_true] at h
        subst hk
        cases z1 : r[i]? with
        | none => simp only [z1] at h; cases h
        | some o =>
          cases o with
          | dead => simp only [z1] at h; cases h
          | lst xs =>
            simp only [z1] at h
            cases z2 : mapO (D.fz r S.length n) xs with
            | none => simp only [z2] at h; cases h
            | some ys =>
              simp only [z2, Option.some.injEq] at h
              subst h
              obtain ⟨vs, v1, v2, v3⟩ := s.obj S.length i (.lst xs) a (by rw [look_top]; exact z1) e
              refine .lst v2 v1 ⟨fun l' i' e' => ?_, s.dis _ _ _ e⟩ (many v3 z2)
              have hlt := look_lt e'
              have := s.inj _ _ _ _ a e (look_push ψ e')
              omega
          | box b xs =>
            simp only [z1] at h
            cases z2 : mapO (D.fz r S.length n) xs with
            | none => simp only [z2] at h; cases h
            | some ys =>
              simp only [z2, Option.some.injEq] at h
              subst h
              obtain ⟨vs, v1, v3⟩ := s.obj S.length i (.box b xs) a (by rw [look_top]; exact z1) e
              refine .box (v1.tr (fun _ e => e) fun _ _ e w => ⟨e, away_push w⟩) (s.trk _ _ _ e) ⟨fun l' i' e' => ?_, s.dis _ _ _ e⟩ (many v3 z2)
              have hlt := look_lt e'
              have := s.inj _ _ _ _ a e (look_push ψ e')
              omega
      · simp only [hk, if_false, Option.some.injEq] at h
        subst h
        have e' : look (ψ :: φ.r) l i = some a := e
        have hlt := look_lt e'
        simp only [List.length_cons] at hlt
        rw [look_low ψ i (by omega)] at e'
        exact .ref e'
end
theorem Le.exit {φ φ' : Phi} {H H' : Hp} {ψ : List Addr} (e : Le ⟨[] :: φ.r, φ.p⟩ H ⟨ψ :: φ'.r, φ'.p⟩ H') : Le φ H φ' H' := by
  have hd : φ'.r.length = φ.r.length := by have := e.dep; simpa using this
  refine ⟨hd, fun l i a q => ?_, fun a o q w => ?_, e.prv, e.pst⟩
  · have h1 := e.grow l i a (look_push [] q)
    have hlt := look_lt q
    have h1 : look (ψ :: φ'.r) l i = some a := h1
    rw [look_low ψ i (by omega)] at h1
    exact h1
  · obtain ⟨h1, w1⟩ := e.stay a o q (away_new w)
    exact ⟨h1, away_push w1⟩
/-- behind a body -/
theorem leave_ok {K : PySem.W.Frag} {mg : Str → Option Value} {φ φ1 : Phi} {H H1 : Hp} {S1 : Sto} {d : D} {v : V} {E : XK} {Q : VK} (l : Le ⟨[] :: φ.r, φ.p⟩ H φ1 H1) (s : RS K φ1 H1 S1) (r : Rel K φ1 H1 d v)
    (z : Ok K mg (Rel K) φ H E Q (leave d S1)) : Q v H1 := by
  obtain ⟨r1, p1⟩ := φ1
  cases S1 with
  | nil => exact z.elim
  | cons ro S2 =>
    cases r1 with
    | nil => have := l.dep; simp at this
    | cons ψ r2 =>
      have l2 : Le φ H ⟨r2, p1⟩ H1 := Le.exit (φ' := ⟨r2, p1⟩) l
      have s2 : RS K ⟨r2, p1⟩ H1 S2 := RS.exit (φ := ⟨r2, p1⟩) s
      cases ro with
      | nil =>
        have sh := s.shape
        simp only [List.map_cons, List.cons.injEq] at sh
        have e : ψ = [] := by have := sh.1; simpa using this
        subst e
        exact z ⟨r2, p1⟩ H1 v l2 s2 (r.tr (fun _ _ e w => ⟨e, away_push (φ := ⟨r2, p1⟩) w⟩) fun _ _ _ e => look_enter e)
      | cons o ro =>
        unfold leave at z
        cases q : D.fz (o :: ro) S2.length 40 d with
        | none => simp only [q] at z; exact z.elim
        | some d' =>
          simp only [q] at z
          exact z ⟨r2, p1⟩ H1 v l2 s2 (Rel.fz (φ := ⟨r2, p1⟩) s 40 r q)
theorem fzF_ok {K : PySem.W.Frag} {φ : Phi} {H : Hp} {S : Sto} {ψ : List Addr} {r : List O} (s : RS K ⟨ψ :: φ.r, φ.p⟩ H (r :: S)) : ∀ {fs gs : List (Str × D)} {vs : List (Str × V)}, RF K ⟨ψ :: φ.r, φ.p⟩ H fs vs → fzF r S.length fs = some gs → RF K φ H gs vs
  | [], gs, vs, q, h => by
    simp only [fzF, Option.some.injEq] at h
    subst h
    obtain ⟨q1, q2⟩ := q
    cases vs with
    | nil => exact ⟨rfl, .nil⟩
    | cons _ _ => simp at q1
  | (x, d) :: fs, gs, vs, q, h => by
    unfold fzF at h
    cases z1 : D.fz r S.length 40 d with
    | none => simp only [z1] at h; cases h
    | some d' =>
      simp only [z1] at h
      cases z2 : fzF r S.length fs with
      | none => simp only [z2] at h; cases h
      | some gs' =>
        simp only [z2, Option.some.injEq] at h
        subst h
        obtain ⟨q1, q2⟩ := q
        cases vs with
        | nil => simp at q1
        | cons p vs =>
          obtain ⟨y, v⟩ := p
          simp only [List.map_cons, List.cons.injEq] at q1 q2
          cases q2 with
          | cons q3 q4 =>
            obtain ⟨r1, r2⟩ := fzF_ok s ⟨q1.2, q4⟩ z2
            exact ⟨by simp [q1.1, r1], .cons (Rel.fz s 40 q3 z1) r2⟩
theorem leaveX_ok {K : PySem.W.Frag} {mg : Str → Option Value} {φ φ1 : Phi} {H H1 : Hp} {S1 : Sto} {x : Exn} {cls : Value} {dx : Option Addr} {E : XK} {Q : VK} (l : Le ⟨[] :: φ.r, φ.p⟩ H φ1 H1) (s : RS K φ1 H1 S1) (r : RX K mg φ1 H1 x cls dx)
    (z : Ok K mg (Rel K) φ H E Q (leaveX x S1)) : E cls dx H1 := by
  obtain ⟨r1, p1⟩ := φ1
  cases S1 with
  | nil => exact z.elim
  | cons ro S2 =>
    cases r1 with
    | nil => have := l.dep; simp at this
    | cons ψ r2 =>
      have l2 : Le φ H ⟨r2, p1⟩ H1 := Le.exit (φ' := ⟨r2, p1⟩) l
      have s2 : RS K ⟨r2, p1⟩ H1 S2 := RS.exit (φ := ⟨r2, p1⟩) s
      unfold leaveX at z
      cases q : fzF ro S2.length x.fs with
      | none => simp only [q] at z; exact z.elim
      | some fs =>
        simp only [q] at z
        obtain ⟨a, dd, vs, e1, e2, e3, e4, e5, e6⟩ := r
        exact z ⟨r2, p1⟩ H1 cls dx l2 s2 ⟨a, dd, vs, e1, e2, e3, e4, away_push (φ := ⟨r2, p1⟩) e5, fzF_ok (φ := ⟨r2, p1⟩) s e6 q⟩
/-- what a body stands in -/
structure Cok (X : Cx) (W : WX) (k : Nat) : Prop where
  tk : Takes X W
  po : PassesOwn (model X.prog X.w) X.A X.env X.xe
  calm : X.calm = true
  room : Room k X.A
section
variable {P : Program} {w : World} {K : PySem.W.Frag} {mg : Str → Option Value} {base : Heap}
/-- a def has the meaning of its body -/
theorem fm_of {x qual : Str} {st : Stmt} {f : Addr} {fd : FuncData} {N ps : List Str} {k : Nat} {c : CS} (F : Fun K x qual st f fd) (Sc : FnScope N ps (defScope st))
    (body : ∀ (cdv : Value) (A : Around) (outer : List Env) (s : Shared) (H : Hp) (E : XK), Cok (cxOf (L2.CX P w) P w K mg base N qual (defScope st) f cdv A outer s H E) (fun cls d _ H => E cls d H) k →
      MSs (cxOf (L2.CX P w) P w K mg base N qual (defScope st) f cdv A outer s H E) (fun cls d _ H => E cls d H) (defBody st) c) :
    FM P w K mg base (k + 1) f fd ps (runF N.length c) := by
  refine ⟨F.okX Sc (fun vs H Q E h => h.1) (fun cdv A outer s H vs Q E hr h => ?_), F.kp⟩
  obtain ⟨hl, ds, φ, S, r, st0, h⟩ := h
  have hb := body cdv A outer s H E ⟨takes_of rfl rfl rfl rfl, passes_of rfl, rfl, hr⟩
  refine ⟨_, hb.ps, ds.map some ++ List.replicate (N.length - ds.length) none, ⟨[] :: φ.r, φ.p⟩, [] :: S, ?_, st0.enter, ?_⟩
  · refine ⟨by simp [L2.start, r.length], fun i d q => ?_⟩
    by_cases hi : i < ds.length
    · rw [List.getElem?_append_left (by simpa using hi)] at q
      rw [List.getElem?_map] at q
      cases q2 : ds[i]? with
      | none => rw [q2] at q; cases q
      | some d2 =>
        rw [q2] at q
        cases q
        obtain ⟨v, e1, e2⟩ := r.get q2
        refine ⟨v, ?_, e2.enter⟩
        unfold L2.start
        rw [List.getElem?_append_left (by simpa [← r.length] using hi), List.getElem?_map, e1]
        rfl
    · rw [List.getElem?_append_right (by simpa using hi)] at q
      rw [List.getElem?_replicate] at q
      split at q <;> cases q
  · unfold runF at h
    cases q : c (ds.map some ++ List.replicate (N.length - ds.length) none) ([] :: S) with
    | nx ρ1 S1 =>
      rw [q] at h
      exact fun φ1 H1 σ1 l s re => leave_ok l s .non h
    | ret d S1 =>
      rw [q] at h
      exact fun φ1 H1 v l s rv => leave_ok l s rv h
    | brk ρ1 S1 => rw [q] at h; exact h.elim
    | cnt ρ1 S1 => rw [q] at h; exact h.elim
    | err x ρ1 S1 =>
      rw [q] at h
      exact fun φ1 H1 σ1 cls dx l s re rx => leaveX_ok l s rx h
    | bad => rw [q] at h; exact h.elim
theorem FM.mono {j k : Nat} {f : Addr} {fd : FuncData} {ps : List Str} {m : Sem'} (F : FM P w K mg base j f fd ps m) (h : j ≤ k) : FM P w K mg base k f fd ps m := ⟨F.ok.mono h, F.kp⟩
/-- another meaning that says the same wherever it says something -/
theorem FM.as {k : Nat} {f : Addr} {fd : FuncData} {ps : List Str} {m m' : Sem'} (F : FM P w K mg base k f fd ps m) (h : ∀ ds S, m' ds S = m ds S ∨ m' ds S = .bad) : FM P w K mg base k f fd ps m' :=
  ⟨F.ok.imp fun vs H Q E q => by
    obtain ⟨e, ds, φ, S, r, s, z⟩ := q
    rcases h ds S with q | q
    · rw [q] at z; exact ⟨e, ds, φ, S, r, s, z⟩
    · rw [q] at z; exact z.elim, F.kp⟩
end
/-- no meaning at all -/
theorem fm_bad {P : Program} {w : World} {K : PySem.W.Frag} {mg : Str → Option Value} {base : Heap} {x qual : Str} {st : Stmt} {f : Addr} {fd : FuncData} {ps : List Str} {k : Nat} (F : Fun K x qual st f fd) : FM P w K mg base k f fd ps (fun _ _ => .bad) :=
  ⟨⟨fun vs H Q E h => h.1, fun A outer s H args us vs Q E hr he hb hv h => by
    obtain ⟨_, ds, φ, S, _, _, z⟩ := h
    exact z.elim⟩, F.kp⟩
/-! ### the law -/
/-- what is wanted of a law's def over a script -/
theorem law_end {K : PySem.W.Frag} {mg : Str → Option Value} {m : Sem'} {H : Hp} {a : Addr} {ns : List Int} (hn : ns.length ≤ 63) (hS : SqL K H a (ns.map V.int)) (h : m [.rol (ns.map D.int)] [] = .ok (.bl true) []) :
    spM K mg 1 m [.ref a] H (fun v _ => v = .bl true) (fun _ _ _ => False) := by
  have away : ∀ b, Away ⟨[], []⟩ b := by
    intro b
    constructor
    · intro l i e
      cases e
    · intro z
      cases z
  have rs0 : RS K ⟨[], []⟩ H [] := by
    constructor
    · rfl
    · intro l i o a e; cases e
    · intro l i l' i' a e; cases e
    · intro l i o e; cases e
    · intro l i a e; cases e
    · intro a e; cases e
    · intro l i a e; cases e
  refine ⟨rfl, [.rol (ns.map D.int)], ⟨[], []⟩, [], .cons (.rol ?_ ?_ (RelL.ints ns)) .nil, rs0, ?_⟩
  · rw [List.length_map]
    exact line_ge (by omega)
  · rcases hS with h | h
    · exact .inl ⟨h, away a⟩
    · exact .inr (.inr h)
  · rw [h]
    intro φ' H' v l s r
    cases r
    rfl
theorem law_walk {l : PySem.W.OpenLaw} {k : Nat} {q : Program} {loose : List Str} {XP : (Str → Option Value) → Heap → Prop} {YP : World → Heap → Prop} {d : DefRec} {K : Params → PySem.W.Frag} {m : Sem'} {x : Str}
    (hn : l.most = some 63) (hdf : d.params.defaults = []) (hr : Room k callerA)
    (hY : ∀ (w : World) (h : Heap), YP w h → (K w.params).In h)
    (F : ∀ (w : World) (mg : Str → Option Value) (fa : Addr) (h : Heap), (K w.params).In h → h.Ns mainGlobals mg → mg d.name = some (.ref fa) →
      ∃ fd : FuncData, (∀ (s : Shared) (u : Value), BindsTo s fd ⟨[u], []⟩ [(x, u)]) ∧
        ∀ base : Heap, (K w.params).In base → base.Ns mainGlobals mg → FnOk l.prog w (K w.params) mg base (L2.CX l.prog w) k fa fd [x] (spM (K w.params) mg 1 m))
    (h : ∀ ns : List Int, ns.length ≤ 63 → m [.rol (ns.map D.int)] [] = .ok (.bl true) []) :
    PySem.W.WalkO q loose XP YP l.row.toRowW d [] (fun f vs => PySem.call f vs) := by
  refine walk_of (x := x) (k := k) (CX := fun w => L2.CX l.prog w) (sp := fun w vs H Q E => ∀ mg : Str → Option Value, spM (K w.params) mg 1 m vs H Q E) hn (by rw [sizeLine_eq]; decide) hdf hr hY ?_ ?_ ?_
  · intro w mg fa hh h1 h2 h3
    obtain ⟨fd, hb, hf⟩ := F w mg fa hh h1 h2 h3
    exact ⟨fd, hb, fun base b1 b2 => (hf base b1 b2).imp fun vs H Q E z => z mg⟩
  · intro w H a ns hl _ hS mg
    exact law_end hl hS (h ns hl)
  · intro w H s e s' z
    obtain ⟨_, _, _, _, _, _, _, _, _, _, _, _, z⟩ := z
    exact z
/-! ### a < b < c, as a value and as a test -/
section
variable {X : Cx} {W : WX} {pos : Pos} {a b c : Expr} {ca cb cc : C} {op op' : CmpOp} {g g' : G2}
theorem chain_imp {r r' : R2} (k : ∀ (W : WX) (σ : L2.St) (φ : Phi) (H : Hp) (S : Sto) (x y : D) (vx vy : V) (Q : VK), RS X.K φ H S → Rel X.K φ H x vx → Rel X.K φ H y vy → Ok X.K X.mg (Rel X.K) φ H (fun cls d H' => W cls d σ H') Q (g x y S) → r vx vy H Q)
    (k' : ∀ (W : WX) (σ : L2.St) (φ : Phi) (H : Hp) (S : Sto) (x y : D) (vx vy : V) (Q : VK), RS X.K φ H S → Rel X.K φ H x vx → Rel X.K φ H y vy → Ok X.K X.mg (Rel X.K) φ H (fun cls d H' => W cls d σ H') Q (g' x y S) → r' vx vy H Q)
    {σ : L2.St} {H : Hp} {Q : VK} (h : rdE X W (cChain g g' ca cb cc) σ H Q) : tChain r r' (rdE X W ca) (rdE X W cb) (rdE X W cc) σ H Q := by
  obtain ⟨ρ, φ, S, hE, hs, h⟩ := h
  refine ⟨ρ, φ, S, hE, hs, h.step fun x S1 φ1 H1 vx q l1 s1 rx0 za => ⟨ρ, φ1, S1, hE.mono l1, s1, za.step fun y S2 φ2 H2 vy q2 l2 s2 ry zb => ?_⟩⟩
  have rx := rx0.mono l2
  refine k W σ φ2 H2 S2 x y vx vy _ s2 rx ry (zb.step fun d S3 φ3 H3 v q3 l3 s3 rd z => ?_)
  cases rd <;> try exact z.elim
  rename_i bb
  cases bb with
  | false => exact ⟨false, rfl, by simp only [Bool.false_eq_true, if_false]; exact z φ3 H3 _ (Le.refl _ _) s3 (.bl _)⟩
  | true =>
    refine ⟨true, rfl, ?_⟩
    simp only [if_true]
    refine ⟨ρ, φ3, S3, ((hE.mono l1).mono l2).mono l3, s3, Ok.step z fun w S4 φ4 H4 vw q4 l4 s4 rw' z2 => ?_⟩
    exact k' W σ φ4 H4 S4 y w vy vw Q s4 ((ry.mono l3).mono l4) rw' z2
theorem me_chain (ho : OS X (compareOp op) g) (ho' : OS X (compareOp op') g') (ha : ME X W a ca) (hb : ME X W b cb) (hc : ME X W c cc) (hm : lastMarks [op, op'] [b, c] = false := by with_unfolding_all rfl) :
    ME X W (.Compare a [op, op'] [b, c] pos) (cChain g g' ca cb cc) := by
  obtain ⟨r, hr, k⟩ := ho
  obtain ⟨r', hr', k'⟩ := ho'
  exact ⟨(pe_chain hr hr' ha.pe hb.pe hc.pe hm).imp fun σ H Q h => chain_imp k k' h⟩
theorem mt_chain (ho : OS X (compareOp op) g) (ho' : OS X (compareOp op') g') (ha : ME X W a ca) (hb : ME X W b cb) (hc : ME X W c cc) (hm : lastMarks [op, op'] [b, c] = false := by with_unfolding_all rfl) :
    MT X W (.Compare a [op, op'] [b, c] pos) (cTB (cChain g g' ca cb cc)) := by
  obtain ⟨r, hr, k⟩ := ho
  obtain ⟨r', hr', k'⟩ := ho'
  exact ⟨(pt_chain hr hr' ha.pe hb.pe hc.pe hm).imp fun σ H Q h => chain_imp k k' (rdT_of (t := cTB (cChain g g' ca cb cc)) h)⟩
end
end MP

/-! MP: own exceptions over ValueError: class, __init__ with super(), raise, try. -/
namespace MP
open PySem PySem.Spec PySem.W PySem.Calls PyProof.Rows PySem.HandSPX L2

/-- self.f = v of an exception at e in the heap -/
abbrev exoO (C t : Addr) (d : Option Addr) : Obj := { cls := .ref C, dict := d, data := .fields #[.ref t, .none, .none, .none, .bool false, .none] }

/-- what a def of a class over ValueError must be, whose body says super() -/
structure SupFn (prog : Program) (K : Frag) (f D : Addr) (q : Str) (ps : List Str) (fd : FuncData) : Prop where
  at_ : ∃ oc od osl, K.lookup f = some ⟨oc, od, .func fd, osl⟩
  ty : typeIn K (.ref f) = some (.type "function")
  qual : fd.qualname = q
  glob : fd.globals = mainGlobals
  blt : fd.builtins = builtinsNs
  code : codeIn K fd.code q = true
  file : ∃ cda oc od vs sl tf, fd.code = .ref cda ∧ K.lookup cda = some ⟨oc, od, .fields vs, sl⟩ ∧ vs[2]? = some (.str prog.main.file tf)
  cell : ∃ cc oc od sl, fd.closure = [(("__class__" : Str), cc)] ∧ K.lookup cc = some ⟨oc, od, .cell (some (.ref D)), sl⟩
  self : ∃ ar, (fd.params.posonlyargs ++ fd.params.args).head? = some ar ∧ ar.arg = "self"
  kind : fd.scope.kind = .function
  noco : fd.scope.isCoroutine = false
  nogen : fd.scope.isGenerator = false
  nocell : ∀ x ∈ fd.scope.names, x.2 ≠ .cell
  loc : ∀ x ∈ ps, fd.scope.names.lookup x = some .local
  sup : fd.scope.names.lookup ("super" : Str) = some .globalImplicit
  cls : fd.scope.names.lookup ("__class__" : Str) = some .free

section
variable {prog : Program} {w : World} {A : Around} {E : Value → Shared → Prop} {K : Frag} {mg : Str → Option Value}
/-- what the globals must be -/
structure Gls (prog : Program) (K : Frag) (mg : Str → Option Value) (h : Heap) : Prop where
  kin : K.In h
  g : h.Ns mainGlobals mg
  b : ∃ mb, h.Ns builtinsNs mb ∧ ∀ x : Str, x ≠ "__name__" → mb x = bootBuiltins x
  nolimit : h.NoLimit
theorem Gls.keeps {h h' : Heap} (G : Gls prog K mg h) (k : ∀ b o, h.get? b = some o → h'.get? b = some o) : Gls prog K mg h' :=
  ⟨G.kin.keeps k, G.g.keeps k, let ⟨mb, b1, b2⟩ := G.b; ⟨mb, b1.keeps k, b2⟩, G.nolimit.keeps k⟩

/-- super().attr: the super object -/
theorem sup_node {body : List Stmt} {p0 p1 : Pos} {attr : Str} {whole : Sem Value} {fd : FuncData} {f L D x C : Addr} {q : Str} {ps : List Str} {ox : Obj} {odx : Option Obj} {cdD : ClassData} {m : Str → Option Value} {Q : Value → Shared → Prop}
    {h : Heap} {g : Array GenState} {d : Drawn} {t : Nat} {os : OsState} (SF : SupFn prog K f D q ps fd) (G : Gls prog K mg h) (hL : h.Ns L m) (hv : m "self" = some (.ref x)) (hps : ("self" : Str) ∈ ps) (I : InstAt h x ox C odx)
    (hD : clsIn K D = some cdD) (hsub : mroIn K C (.ref D) = some true) (hsuper : mg "super" = none) (htop : (prog.main.scope.names.lookup ("super" : Str)).isSome = false)
    (hat : (attr == ("__class__" : Str)) = false) (hboot : bootBuiltins "super" = some (.type "super"))
    (hq : ∀ h', h'.get? h.objs.size = some (ks_superObj D x C) → (∀ y o, h.get? y = some o → h'.get? y = some o) → Q (.ref h.objs.size) ⟨h', g, d, t, os⟩) :
    _root_.PySem.wpAt (model prog w) A (.func body (callEnv fd L f)) (attributeBase (.Call (.Name "super" p0) [] [] p1) attr (callEnv fd L f) whole) Q E ⟨h, g, d, t, os⟩ := by
  obtain ⟨oc, od, osl, hf⟩ := SF.at_
  obtain ⟨cda, oc2, od2, vs, sl2, tf, hco, hcd, hvs⟩ := SF.file
  obtain ⟨cc, oc3, od3, sl3, hcl, hcc⟩ := SF.cell
  obtain ⟨ar, hp, har⟩ := SF.self
  obtain ⟨mb, hb, hbb⟩ := G.b
  obtain ⟨oD, hD1, hD2⟩ : ∃ oD, h.get? D = some oD ∧ oD.data = .cls cdD := by
    unfold clsIn at hD
    split at hD
    · rename_i c d cd' sl ho
      cases hD
      exact ⟨_, G.kin _ _ ho, rfl⟩
    · cases hD
  refine ks_wpAt_super_base (env := callEnv fd L f) SF.sup SF.cls hat rfl (G.kin _ _ hf) rfl hp hco (G.kin _ _ hcd) rfl hvs (beq_self_eq_true _) htop ?_
  have hgl : (callEnv fd L f).globals = mainGlobals := SF.glob
  have hbl : (callEnv fd L f).builtins = builtinsNs := SF.blt
  refine ks_loadName_global SF.kind SF.sup (loadGlobal_builtin (env := callEnv fd L f) (by rw [hgl]; exact G.g) hsuper (by rw [hbl]; exact hb) ((hbb _ (by decide +kernel)).trans hboot) ⟨rfl, ?_⟩)
  have hce : (callEnv fd L f).cells.lookup ("__class__" : Str) = some cc := by
    show fd.closure.lookup ("__class__" : Str) = some cc
    rw [hcl]; rfl
  refine wpAny_loadName_free SF.kind SF.cls hce ⟨_, G.kin _ _ hcc, rfl⟩ ?_
  rw [har]
  refine wpAny_loadName_local SF.kind (SF.loc _ hps) hL hv ?_
  refine ks_wpAny_isType_cls hD1 hD2 ⟨rfl, ?_⟩
  refine ks_wpAny_call_super hD1 hD2 I.at_ I.cls (fun c e => ?_) (looks_mroIn G.kin hsub) (fun h' e k => ?_)
  · have := I.no
    unfold notCls at this
    rw [e] at this
    exact Bool.noConfusion this
  · exact hq h' e k

/-- the facts of a class over ValueError -/
structure ExCls (K : Frag) (C : Addr) : Prop where
  o : OexC K C
  obj : subIn K (.ref C) (.type "ValueError") = some true
  tpa : nsIn K cStatics "thirdparty.any" = some none

/-- self.f = v, the first field -/
theorem set_new {C x dx' t1 : Addr} {f : Str} {v : Value} {Q : Unit → Shared → Prop} {h : Heap} {g : Array GenState} {d : Drawn} {t : Nat} {os : OsState} (T : OexC K C) (X : K.In h) (hx : h.get? x = some (exoO C t1 none)) (hno : findIn K (.ref C) f = some none)
    (hq : ∀ h' tk' dx, (∀ b o, b ≠ x → h.get? b = some o → h'.get? b = some o) → h.objs.size ≤ dx → dx ≠ x → h'.get? x = some (exoO C t1 (some dx)) → h'.Ns1 dx (fun y => if y = f then some v else none) → Q () ⟨h', g, d, tk', os⟩) :
    wpAny (model prog w) A (setAttr (.ref x) f v) Q E ⟨h, g, d, t, os⟩ := by
  obtain ⟨nm, q, N, bs, bm, sn, sub, ab, col, dd, k0, k1, k2, k3, k5, hC, hbm⟩ := T.cls
  have hcl : clsIn K C = some { name := nm, bases := bs, mro := .ref C :: bm, ns := N, qualname := q, hasDict := true, slotNames := sn, subclasses := sub, abstract := ab, collection := col, hasDel := false } := by unfold clsIn; rw [hC] <;> rfl
  refine set_plain X (ox := exoO C t1 none) (od := none) ⟨hx, rfl, rfl, trivial⟩ T.sa ?_
  exact exc_osa X hx hcl (show refsVE (.ref C :: bm) = true from hbm) rfl hno fun h' tk' dx k dn dne e hn => hq h' tk' dx k dn dne e hn
/-- a further field -/
theorem set_old {C x dx t1 : Addr} {f : Str} {v : Value} {m0 : Str → Option Value} {nl : List Str} {Q : Unit → Shared → Prop} {h : Heap} {g : Array GenState} {d : Drawn} {t : Nat} {os : OsState} (T : OexC K C) (X : K.In h) (hx : h.get? x = some (exoO C t1 (some dx))) (hns : h.Ns1 dx m0) (hw : Within m0 nl) (hz : nl.length ≤ 1000)
    (hno : findIn K (.ref C) f = some none)
    (hq : ∀ h' tk', (∀ b o, b ≠ dx → h.get? b = some o → h'.get? b = some o) → h'.Ns1 dx (fun y => if y = f then some v else m0 y) → Q () ⟨h', g, d, tk', os⟩) :
    wpAny (model prog w) A (setAttr (.ref x) f v) Q E ⟨h, g, d, t, os⟩ := by
  obtain ⟨nm, q, N, bs, bm, sn, sub, ab, col, dd, k0, k1, k2, k3, k5, hC, hbm⟩ := T.cls
  have hcl : clsIn K C = some { name := nm, bases := bs, mro := .ref C :: bm, ns := N, qualname := q, hasDict := true, slotNames := sn, subclasses := sub, abstract := ab, collection := col, hasDel := false } := by unfold clsIn; rw [hC] <;> rfl
  obtain ⟨oD, _, _, hoD, _, _⟩ := hns.count hw
  refine set_plain X (ox := exoO C t1 (some dx)) (od := some oD) ⟨hx, rfl, rfl, hoD⟩ T.sa ?_
  exact PySem.OEX.osa_old X hx hns hw hz hcl (show refsVE (.ref C :: bm) = true from hbm) rfl hno fun h' tk' k hn => hq h' tk' k hn

/-- the bodies of the two kinds of __init__ -/
def initBase (nm : Str) (j : Nat) (p : Nat → Pos) : List Stmt :=
  [.Expr (.Call (.Attribute (.Call (.Name "super" (p 0)) [] [] (p 1)) "__init__" (p 2)) [.Name "place" (p 3)] [] (p 4)) (p 5),
   .Assign [.Attribute (.Name "self" (p 6)) "place" (p 7)] (.Name "place" (p 8)) (p 9),
   .Assign [.Attribute (.Name "self" (p 10)) "name" (p 11)] (.Constant (.str nm) j (p 12)) (p 13)]
def initSub (nm : Str) (j : Nat) (p : Nat → Pos) : List Stmt :=
  [.Expr (.Call (.Attribute (.Call (.Name "super" (p 0)) [] [] (p 1)) "__init__" (p 2)) [.Name "place" (p 3)] [] (p 4)) (p 5),
   .Assign [.Attribute (.Name "self" (p 10)) "name" (p 11)] (.Constant (.str nm) j (p 12)) (p 13)]

def supCall (p : Nat → Pos) : Expr := .Call (.Attribute (.Call (.Name "super" (p 0)) [] [] (p 1)) "__init__" (p 2)) [.Name "place" (p 3)] [] (p 4)
/-- the call is read in the plain way (at concrete positions: by rfl) -/
def SupEv (p : Nat → Pos) : Prop := ∀ env, ∃ pl : Sem Bool, eval (supCall p) env = (do
  let ov ← attributeBase (.Call (.Name "super" (p 0)) [] [] (p 1)) "__init__" env (eval (.Call (.Name "super" (p 0)) [] [] (p 1)) env)
  standAt (p 2).atName
  let (f, first) ← holding [ov] (getMethod ov "__init__" pl)
  callWith (p 4) f first (backTo (p 4) (starEach [.Name "place" (p 3)] env)) [])
/-- the dict of a ready exception -/
def nmM (nm : Str) (tk0 : Tok) (u : Value) : Str → Option Value := fun y => if y = "name" then some (.str nm tk0) else if y = "place" then some u else none
theorem nmM_within (nm : Str) (tk0 : Tok) (u : Value) : Within (nmM nm tk0 u) ["name", "place"] := fun y hy => by
  unfold nmM at hy
  by_cases h : y = "name"
  · rw [h]; simp
  · rw [if_neg h] at hy
    by_cases h2 : y = "place"
    · rw [h2]; simp
    · rw [if_neg h2] at hy; exact absurd rfl hy
/-- behind such an __init__ -/
def InitEnd (h : Heap) (C x : Addr) (u : Value) (nm : Str) (R : Shared → Prop) (s : Shared) : Prop :=
  ∀ (h' : Heap) (tk : Nat) (tk0 : Tok) (dx t1 : Addr), (∀ b o, b ≠ x → h.get? b = some o → h'.get? b = some o) → h.objs.size ≤ dx → dx ≠ x → h'.get? x = some (exoO C t1 (some dx)) → h'.Ns1 dx (nmM nm tk0 u) → R { s with heap := h', toks := tk }

theorem gate_base {fd : FuncData} {f D x C t0 : Addr} {q nm : Str} {j : Nat} {p : Nat → Pos} {cdD cdC : ClassData} {u : Value} {R : Result → Shared → Prop}
    {h : Heap} {g : Array GenState} {d : Drawn} {t : Nat} {os : OsState} (hr : Room 2 A) (SF : SupFn prog K f D q ["self", "place"] fd) (hb : fd.body = .stmts (initBase nm j p)) (hev : SupEv p) {hb0 : Heap} (G0 : Gls prog K mg hb0) (kb : ∀ b o, hb0.get? b = some o → h.get? b = some o) (xb : hb0.get? x = none)
    (hbind : BindsTo ⟨h, g, d, t, os⟩ fd ⟨[.ref x, u], []⟩ [("self", .ref x), ("place", u)])
    (T : ExCls K C) (hx : h.get? x = some (exoO C t0 none)) (hD : clsIn K D = some cdD) (hC : clsIn K C = some cdC) (hsub : mroIn K C (.ref D) = some true) (hm : ks_superIn K C D "__init__" = some (some (.builtin "ValueError.__init__")))
    (hsuper : mg "super" = none) (htop : (prog.main.scope.names.lookup ("super" : Str)).isSome = false) (hboot : bootBuiltins "super" = some (.type "super"))
    (n1 : findIn K (.ref C) "place" = some none) (n2 : findIn K (.ref C) "name" = some none)
    (hq : InitEnd h C x u nm (R (.ok (.ret .none))) ⟨h, g, d, t, os⟩) :
    codeAny (model prog w) A (.call (.ref f) ⟨[.ref x, u], []⟩) R ⟨h, g, d, t, os⟩ := by
  have G := G0.keeps kb
  obtain ⟨oc, od, osl, hf⟩ := SF.at_
  have hloc : ∀ y ∈ [(("self" : Str), Value.ref x), ("place", u)], fd.scope.names.lookup y.1 = some .local := by
    intro y hy
    simp only [List.mem_cons, List.not_mem_nil, or_false] at hy
    rcases hy with rfl | rfl
    · exact SF.loc _ (by simp)
    · exact SF.loc _ (by simp)
  have hcr : h.CodeRec fd.code fd.qualname := by rw [SF.qual]; exact codeRec_of G.kin SF.code
  refine ks_codeAny_call_defAt hr.depth (G.kin _ _ hf) rfl G.nolimit hcr hb hbind SF.nocell hloc (fun h1 hns1 k1 => ?_) SF.noco SF.nogen SF.kind
  have G1 := G.keeps k1
  have hx1 := k1 _ _ hx
  have I1 : InstAt h1 x (exoO C t0 none) C none := ⟨hx1, rfl, rfl, trivial⟩
  have hint : interactive (callEnv fd h.objs.size f) = false := by
    show (fd.scope.kind == .module && _) = false
    rw [SF.kind]; rfl
  unfold initBase
  refine ks_wpAt_execs_cons ?_
  refine ks_wpAt_Expr_any ?_ hint
  obtain ⟨pl, hpl⟩ := hev (callEnv fd h.objs.size f)
  refine ks_wpAt_MethodCall (pl := pl) ?_ hpl
  refine ks_wpAt_mono (sup_node (Q := fun ov s₁ => ov = .ref h1.objs.size ∧ ∃ h2, s₁ = ⟨h2, g, d, t + 2, os⟩ ∧ h2.get? h1.objs.size = some (ks_superObj D x C) ∧ (∀ y o, h1.get? y = some o → h2.get? y = some o)) (ps := ["self", "place"]) SF G1 (L := h.objs.size) hns1 rfl (by simp) I1 hD hsub hsuper htop (by decide) hboot fun h2 e2 k2 => ⟨rfl, h2, rfl, e2, k2⟩) (fun ov s₁ z => ?_) (fun _ _ z => z)
  obtain ⟨rfl, h2, rfl, e2, k2⟩ := z
  have G2 := G1.keeps k2
  have hx2 := k2 _ _ hx1
  have I2 : InstAt h2 x (exoO C t0 none) C none := ⟨hx2, rfl, rfl, trivial⟩
  have hI : Looks (model prog w) h2 (isInstance (.ref x) (.type "ValueError")) true := I2.type.andThen (looks_subIn G2.kin T.obj)
  have hmm := hm
  unfold ks_superIn at hmm
  rw [hC] at hmm
  refine kxs_getMethod kxs_ValueError e2 (looks_opaque G2.kin T.tpa) (l₀ := cdC.mro) ?_ rfl G2.kin hmm hI (ks_ne G2.kin I2 hC) (by decide) ?_
  · exact fun A Q E s k q => wpAny_bind ((looks_clsIn G2.kin hC) A _ E s k (wpAny_pure q))
  have k3 : ∀ b o, h2.get? b = some o → (h2.push (kxs_mw "ValueError.__init__" x)).get? b = some o := fun b o e => Heap.get?_push_of_some _ e
  have hu : (h2.push (kxs_mw "ValueError.__init__" x)).get? h2.objs.size = some (kxs_mw "ValueError.__init__" x) := Heap.get?_push_at rfl rfl
  have hst : starEach [.Name "place" (p 3)] (callEnv fd h.objs.size f) = (false, eval (.Name "place" (p 3)) (callEnv fd h.objs.size f)) :: starEach [] (callEnv fd h.objs.size f) := rfl
  show wpAny _ _ (callWith (p 4) (.ref h2.objs.size) [] (backTo (p 4) (starEach [.Name "place" (p 3)] (callEnv fd h.objs.size f))) []) _ _ _
  refine kxs_callWith (i := "ValueError.__init__") (x := x) rfl ?_
  rw [hst]
  refine evalArgs_plain (spliced_cons ?_)
  have hns3 := (hns1.keeps k2).keeps k3
  refine wpAny_Name (wpAny_loadName_local SF.kind (SF.loc _ (by simp)) hns3 (v := u) rfl ?_) (by decide)
  refine spliced_nil ⟨hu, ?_⟩
  -- the call of the wrapper
  obtain ⟨nmC, qC, N, bs, bm, sn, sub, ab, col, dd, c0, c1, c2, c3, c5, hCl, hbm⟩ := T.o.cls
  have hx3 := k3 _ _ hx2
  have G3 := G2.keeps k3
  refine wpAny_call (codeAny_of_tree ?_)
  show wpAny _ _ (callAny (.ref h2.objs.size) ⟨[] ++ [u], []⟩) _ _ _
  simp only [callAny, List.nil_append]
  refine wpAny_bind (wpAny_load hu ?_)
  simp only [kxs_mw, show (Value.type "method-wrapper" == Value.type "method" || Value.type "method-wrapper" == Value.type "builtin_function_or_method" || Value.type "method-wrapper" == Value.type "method-wrapper") = true by decide, if_true]
  refine KFB.if_so (by decide) ?_
  refine wpAny_bind (check_bound_init F.excBase_ValueError.toExcCallFacts (G3.kin _ _ hCl) hx3 rfl ?_)
  refine wpAny_bind (wpAny_pure (wpAny_pure ?_))
  refine ⟨plainId_quiet F.excBase_ValueError.init.plain _, codeAny_builtin F.excBase_ValueError.initEntry ?_⟩
  refine exc_init_tree (cls := .ref C) (t0 := t0) (dv := none) (c2 := .none) (c3 := .none) (b4 := .bool false) hx3 (by show 1 ≤ sizeLine; rw [sizeLine_eq]; omega) fun h4 k4 hx4 _ => ?_
  have xb' : ∀ {b : Addr} {o : Obj}, hb0.get? b = some o → b ≠ x := fun e z => by rw [z, xb] at e; cases e
  have kk : ∀ b o, hb0.get? b = some o → h4.get? b = some o := fun b o e => k4 b o (xb' e) (k3 _ _ (k2 _ _ (k1 _ _ (kb _ _ e))))
  have G4 := G0.keeps kk
  have xL : h.objs.size ≠ x := Ne.symm (Nat.ne_of_lt (Heap.lt_size hx))
  have hns4 : h4.Ns h.objs.size fun x_1 => List.lookup x_1 [(("self" : Str), Value.ref x), ("place", u)].reverse := hns3.at fun o e => k4 _ o xL e
  show _root_.PySem.wpAt (model prog w) _ _ (execs [Stmt.Assign _ _ _, Stmt.Assign _ _ _] _) _ _ _
  refine wpAt_of_wpAny (wpAny_execs_cons (plainObj_wpAny_Assign_Attribute ?_ rfl))
  refine wpAny_Name (wpAny_loadName_local SF.kind (SF.loc _ (by simp)) hns4 (v := u) rfl ?_) (by decide)
  refine wpAny_Name (wpAny_loadName_local SF.kind (SF.loc _ (by simp)) hns4 (v := .ref x) rfl ?_) (by decide)
  refine set_new (dx' := x) T.o G4.kin hx4 n1 fun h5 tk5 dx k5 sz5 dne hx5 hn5 => ?_
  have G5 := G0.keeps fun b o e => k5 b o (xb' e) (kk b o e)
  have hns5 : h5.Ns h.objs.size fun x_1 => List.lookup x_1 [(("self" : Str), Value.ref x), ("place", u)].reverse := hns4.at fun o e => k5 _ o xL e
  refine wpAny_execs_cons (plainObj_wpAny_Assign_Attribute ?_ rfl)
  refine Calls.Constant_str ?_
  refine wpAny_Name (wpAny_loadName_local SF.kind (SF.loc _ (by simp)) hns5 (v := .ref x) rfl ?_) (by decide)
  refine set_old T.o G5.kin hx5 hn5 (nl := ["place"]) (fun y hy => by
    by_cases e : y = "place"
    · rw [e]; simp
    · simp only [e, if_false] at hy; exact absurd rfl hy) (by simp) n2 fun h6 tk6 k6 hn6 => ?_
  refine wpAny_execs_nil ?_
  have dxx : x ≠ dx := Ne.symm dne
  have sz4 : h.objs.size ≤ dx := by
    obtain ⟨_, _, _, e4, _⟩ := id hns4
    exact Nat.le_trans (Nat.le_of_lt (Heap.lt_size e4)) sz5
  exact hq h6 tk6 _ dx _ (fun b o hb e => k6 b o (Nat.ne_of_lt (Nat.lt_of_lt_of_le (Heap.lt_size e) sz4)) (k5 b o hb (k4 b o hb (k3 _ _ (k2 _ _ (k1 _ _ e)))))) sz4 dne (k6 _ _ dxx hx5) (by exact hn6)

theorem gate_sub {fdG fd : FuncData} {fG G f D x C t0 : Addr} {qG q nmG nm : Str} {jG j : Nat} {pG p : Nat → Pos} {cdG cdD cdC : ClassData} {u : Value} {R : Result → Shared → Prop}
    {h : Heap} {g : Array GenState} {d : Drawn} {t : Nat} {os : OsState} (hr : Room 4 A) (SG : SupFn prog K fG G qG ["self", "place"] fdG) (hbG : fdG.body = .stmts (initBase nmG jG pG)) (hevG : SupEv pG)
    (SF : SupFn prog K f D q ["self", "place"] fd) (hb : fd.body = .stmts (initSub nm j p)) (hev : SupEv p) {hb0 : Heap} (G0 : Gls prog K mg hb0) (kb : ∀ b o, hb0.get? b = some o → h.get? b = some o) (xb : hb0.get? x = none)
    (hbindG : ∀ s u v, BindsTo s fdG ⟨[u, v], []⟩ [("self", u), ("place", v)]) (hbind : BindsTo ⟨h, g, d, t, os⟩ fd ⟨[.ref x, u], []⟩ [("self", .ref x), ("place", u)])
    (T : ExCls K C) (hx : h.get? x = some (exoO C t0 none)) (hG : clsIn K G = some cdG) (hD : clsIn K D = some cdD) (hC : clsIn K C = some cdC) (hsubG : mroIn K C (.ref G) = some true) (hsub : mroIn K C (.ref D) = some true)
    (hmG : ks_superIn K C G "__init__" = some (some (.builtin "ValueError.__init__"))) (hm : ks_superIn K C D "__init__" = some (some (.ref fG)))
    (hsuper : mg "super" = none) (htop : (prog.main.scope.names.lookup ("super" : Str)).isSome = false) (hboot : bootBuiltins "super" = some (.type "super"))
    (n1 : findIn K (.ref C) "place" = some none) (n2 : findIn K (.ref C) "name" = some none)
    (hq : InitEnd h C x u nm (R (.ok (.ret .none))) ⟨h, g, d, t, os⟩) :
    codeAny (model prog w) A (.call (.ref f) ⟨[.ref x, u], []⟩) R ⟨h, g, d, t, os⟩ := by
  have G1 := G0.keeps kb
  obtain ⟨oc, od, osl, hf⟩ := SF.at_
  have hloc : ∀ y ∈ [(("self" : Str), Value.ref x), ("place", u)], fd.scope.names.lookup y.1 = some .local := by
    intro y hy
    simp only [List.mem_cons, List.not_mem_nil, or_false] at hy
    rcases hy with rfl | rfl
    · exact SF.loc _ (by simp)
    · exact SF.loc _ (by simp)
  have hcr : h.CodeRec fd.code fd.qualname := by rw [SF.qual]; exact codeRec_of G1.kin SF.code
  refine ks_codeAny_call_defAt hr.depth (G1.kin _ _ hf) rfl G1.nolimit hcr hb hbind SF.nocell hloc (fun h1 hns1 k1 => ?_) SF.noco SF.nogen SF.kind
  have G1 := G1.keeps k1
  have hx1 := k1 _ _ hx
  have I1 : InstAt h1 x (exoO C t0 none) C none := ⟨hx1, rfl, rfl, trivial⟩
  have hint : interactive (callEnv fd h.objs.size f) = false := by
    show (fd.scope.kind == .module && _) = false
    rw [SF.kind]; rfl
  unfold initSub
  refine ks_wpAt_execs_cons ?_
  refine ks_wpAt_Expr_any ?_ hint
  obtain ⟨pl, hpl⟩ := hev (callEnv fd h.objs.size f)
  refine ks_wpAt_MethodCall (pl := pl) ?_ hpl
  refine ks_wpAt_mono (sup_node (Q := fun ov s₁ => ov = .ref h1.objs.size ∧ ∃ h2, s₁ = ⟨h2, g, d, t + 2, os⟩ ∧ h2.get? h1.objs.size = some (ks_superObj D x C) ∧ (∀ y o, h1.get? y = some o → h2.get? y = some o)) (ps := ["self", "place"]) SF G1 (L := h.objs.size) hns1 rfl (by simp) I1 hD hsub hsuper htop (by decide) hboot fun h2 e2 k2 => ⟨rfl, h2, rfl, e2, k2⟩) (fun ov s₁ z => ?_) (fun _ _ z => z)
  obtain ⟨rfl, h2, rfl, e2, k2⟩ := z
  have G2 := G1.keeps k2
  have hx2 := k2 _ _ hx1
  have I2 : InstAt h2 x (exoO C t0 none) C none := ⟨hx2, rfl, rfl, trivial⟩
  obtain ⟨ocG, odG, oslG, hfG⟩ := SG.at_
  have hcG : ocG = .type "function" := by
    have this : (K.lookup fG).map (·.cls) = some (.type "function") := SG.ty
    rw [hfG] at this
    exact Option.some.inj this
  have hmm := hm
  unfold ks_superIn at hmm
  rw [hC] at hmm
  refine ks_wpAny_getMethod_super e2 (looks_opaque G2.kin T.tpa) (l₀ := cdC.mro) ?_ rfl G2.kin hmm (G2.kin _ _ hfG) hcG (ks_ne G2.kin I2 hC) (by decide) ?_
  · exact fun A Q E s k q => wpAny_bind ((looks_clsIn G2.kin hC) A _ E s k (wpAny_pure q))
  have k3 : ∀ b o, h2.get? b = some o → (h2.push (methodObj (.ref fG) (.ref x))).get? b = some o := fun b o e => Heap.get?_push_of_some _ e
  have hu : (h2.push (methodObj (.ref fG) (.ref x))).get? h2.objs.size = some (methodObj (.ref fG) (.ref x)) := Heap.get?_push_at rfl rfl
  have hst : starEach [.Name "place" (p 3)] (callEnv fd h.objs.size f) = (false, eval (.Name "place" (p 3)) (callEnv fd h.objs.size f)) :: starEach [] (callEnv fd h.objs.size f) := rfl
  have hfn : fnIn K fG = true := by unfold fnIn; rw [hfG]
  show wpAny _ _ (callWith (p 4) (.ref h2.objs.size) [] (backTo (p 4) (starEach [.Name "place" (p 3)] (callEnv fd h.objs.size f))) []) _ _ _
  refine callWith_of (P := MethP K h2.objs.size fG (.ref x)) rfl (keeps_M hfn) ?_
  rw [hst]
  refine evalArgs_plain (spliced_cons ?_)
  have hns3 := (hns1.keeps k2).keeps k3
  refine wpAny_Name (wpAny_loadName_local SF.kind (SF.loc _ (by simp)) hns3 (v := u) rfl ?_) (by decide)
  have G3 := G2.keeps k3
  refine spliced_nil ⟨⟨hu, G3.kin⟩, ?_⟩
  have kk3 : ∀ b o, hb0.get? b = some o → (h2.push (methodObj (.ref fG) (.ref x))).get? b = some o := fun b o e => k3 _ _ (k2 _ _ (k1 _ _ (kb _ _ e)))
  have xb' : ∀ {b : Addr} {o : Obj}, hb0.get? b = some o → b ≠ x := fun e z => by rw [z, xb] at e; cases e
  have xL : h.objs.size ≠ x := Ne.symm (Nat.ne_of_lt (Heap.lt_size hx))
  refine wpAny_call (method_call hu ?_)
  refine gate_base (hb0 := hb0) ?_ SG hbG hevG G0 kk3 xb (hbindG _ _ _) T (k3 _ _ hx2) hG hC hsubG hmG hsuper htop hboot n1 n2 fun h4 tk4 tk0 dx t1 k4 sz4 dne hx4 hn4 => ?_
  · exact (hr.deeper _).mono (by omega)
  have kk : ∀ b o, hb0.get? b = some o → h4.get? b = some o := fun b o e => k4 b o (xb' e) (kk3 b o e)
  have G4 := G0.keeps kk
  have hns4 : h4.Ns h.objs.size fun x_1 => List.lookup x_1 [(("self" : Str), Value.ref x), ("place", u)].reverse := hns3.at fun o e => k4 _ o xL e
  show _root_.PySem.wpAt (model prog w) _ _ (execs [Stmt.Assign _ _ _] _) _ _ _
  refine wpAt_of_wpAny (wpAny_execs_cons (plainObj_wpAny_Assign_Attribute ?_ rfl))
  refine Calls.Constant_str ?_
  refine wpAny_Name (wpAny_loadName_local SF.kind (SF.loc _ (by simp)) hns4 (v := .ref x) rfl ?_) (by decide)
  refine set_old T.o G4.kin hx4 hn4 (nmM_within _ _ _) (by simp) n2 fun h6 tk6 k6 hn6 => ?_
  refine wpAny_execs_nil ?_
  have dxx : x ≠ dx := Ne.symm dne
  have szd : h.objs.size ≤ dx := by
    obtain ⟨_, _, _, e4, _⟩ := id hns3
    exact Nat.le_trans (Nat.le_of_lt (Heap.lt_size e4)) sz4
  have e : ∀ tkn : Tok, (fun y : Str => if y = "name" then some (Value.str nm tkn) else nmM nmG tk0 u y) = nmM nm tkn u := by
    intro tkn
    funext y
    unfold nmM
    by_cases hy : y = "name" <;> simp [hy]
  rw [e] at hn6
  exact hq h6 tk6 _ dx _ (fun b o hb e => k6 b o (Nat.ne_of_lt (Nat.lt_of_lt_of_le (Heap.lt_size e) szd)) (k4 b o hb (k3 _ _ (k2 _ _ (k1 _ _ e))))) szd dne (k6 _ _ dxx hx4) hn6

/-- a call of the class: the exception stands ready -/
def EndE (h : Heap) (C : Addr) (u : Value) (nm : Str) (R : Result → Shared → Prop) (s : Shared) : Prop :=
  ∀ (h' : Heap) (tk : Nat) (tk0 : Tok) (e dx t1 : Addr), (∀ b o, h.get? b = some o → h'.get? b = some o) → h.objs.size ≤ e → h.objs.size ≤ dx → dx ≠ e → h'.get? e = some (exoO C t1 (some dx)) → h'.Ns1 dx (nmM nm tk0 u) → R (.ok (.ret (.ref e))) { s with heap := h', toks := tk }
/-- the class at C is an own exception class: called with a place it makes one of the name nm -/
structure MkE (prog : Program) (w : World) (K : Frag) (mg : Str → Option Value) (C : Addr) (nm : Str) : Prop where
  call : ∀ (A : Around) (R : Result → Shared → Prop) (h hb0 : Heap) (g : Array GenState) (d : Drawn) (t : Nat) (os : OsState) (u : Value), Room 6 A → Gls prog K mg hb0 → (∀ b o, hb0.get? b = some o → h.get? b = some o) →
    EndE h C u nm R ⟨h, g, d, t, os⟩ → codeAny (model prog w) A (.call (.ref C) ⟨[u], []⟩) R ⟨h, g, d, t, os⟩
  kC : keepIn K (.ref C) = true
  exC : subIn K (.ref C) (.type "BaseException") = some true
  tyC : typeIn K (.ref C) = some (.type "type")
theorem mk_run {C fI : Addr} {nm : Str} {R : Result → Shared → Prop} {h hb0 : Heap} {g : Array GenState} {d : Drawn} {t : Nat} {os : OsState} {u : Value} (T : ExCls K C) (G0 : Gls prog K mg hb0) (kb : ∀ b o, hb0.get? b = some o → h.get? b = some o)
    (iC : findIn K (.ref C) "__init__" = some (some (.ref fI))) (tI : typeIn K (.ref fI) = some (.type "function"))
    (run : ∀ (h1 : Heap) (x t0 : Addr) (R1 : Result → Shared → Prop), (∀ b o, hb0.get? b = some o → h1.get? b = some o) → hb0.get? x = none → h1.get? x = some (exoO C t0 none) → InitEnd h1 C x u nm (R1 (.ok (.ret .none))) ⟨h1, g, d, t, os⟩ →
      codeAny (model prog w) (A.under (.builtin "type.__call__" ⟨[.ref C, u], []⟩)) (.call (.ref fI) ⟨[.ref x, u], []⟩) R1 ⟨h1, g, d, t, os⟩)
    (hq : EndE h C u nm R ⟨h, g, d, t, os⟩) : codeAny (model prog w) A (.call (.ref C) ⟨[u], []⟩) R ⟨h, g, d, t, os⟩ := by
  obtain ⟨nmC, q, N, bs, bm, sn, sub, ab, col, dd, k0, k1, k2, k3, k5, hC, hbm⟩ := T.o.cls
  have G := G0.keeps kb
  have kk : ∀ b o, h.get? b = some o → ((h.push (kdv_tup [u])).push (excO C h.objs.size)).get? b = some o := fun b o e => Heap.get?_push_of_some _ (Heap.get?_push_of_some _ e)
  have hget : ((h.push (kdv_tup [u])).push (excO C h.objs.size)).get? (h.objs.size + 1) = some (excO C h.objs.size) := by heap_get
  refine call_own F.excBase_ValueError (fun Y => refsVE_contains Y bm hbm) (G.kin _ _ hC) (looks_findIn G.kin iC) (fun self => bind_fn G.kin self tI) (by show 1 ≤ sizeLine; rw [sizeLine_eq]; omega) ?_
  refine run _ (h.objs.size + 1) h.objs.size _ (fun b o e => kk _ _ (kb _ _ e)) ?_ hget fun h' tk tk0 dx t1 k' sz dne he hn => ?_
  · cases z : hb0.get? (h.objs.size + 1) with
    | none => rfl
    | some o =>
      exact absurd (Nat.lt_of_lt_of_le (Heap.lt_size (kb _ _ z)) (Nat.le_succ _)) (Nat.lt_irrefl _)
  · refine ⟨rfl, hq h' tk tk0 (h.objs.size + 1) dx t1 (fun b o e => k' b o (Nat.ne_of_lt (Nat.lt_of_lt_of_le (Heap.lt_size e) (Nat.le_succ _))) (kk _ _ e)) (Nat.le_succ _) ?_ dne he hn⟩
    refine Nat.le_trans ?_ sz
    rw [Heap.size_push, Heap.size_push]
    omega
/-- the base class itself -/
theorem mke_base {fd : FuncData} {f C : Addr} {q nm : Str} {j : Nat} {p : Nat → Pos} {cdC : ClassData} (SF : SupFn prog K f C q ["self", "place"] fd) (hb : fd.body = .stmts (initBase nm j p)) (hev : SupEv p)
    (hbind : ∀ s u v, BindsTo s fd ⟨[u, v], []⟩ [("self", u), ("place", v)]) (T : ExCls K C) (iC : findIn K (.ref C) "__init__" = some (some (.ref f))) (hC : clsIn K C = some cdC) (hsub : mroIn K C (.ref C) = some true)
    (hm : ks_superIn K C C "__init__" = some (some (.builtin "ValueError.__init__")))
    (hsuper : mg "super" = none) (htop : (prog.main.scope.names.lookup ("super" : Str)).isSome = false) (hboot : bootBuiltins "super" = some (.type "super"))
    (n1 : findIn K (.ref C) "place" = some none) (n2 : findIn K (.ref C) "name" = some none) : MkE prog w K mg C nm :=
  ⟨fun A R h hb0 g d t os u hr G0 kb hq => mk_run T G0 kb iC SF.ty (fun h1 x t0 R1 k1 xb hx hq1 => gate_base ((Room.make (hr.mono (by omega)) C [u] []).mono (by omega : 2 ≤ 5)) SF hb hev G0 k1 xb (hbind _ _ _) T hx hC hC hsub hm hsuper htop hboot n1 n2 hq1) hq, T.o.kC, T.o.exC, T.o.tyC⟩
theorem mke_sub {fdG fd : FuncData} {fG G f C : Addr} {qG q nmG nm : Str} {jG j : Nat} {pG p : Nat → Pos} {cdG cdC : ClassData} (SG : SupFn prog K fG G qG ["self", "place"] fdG) (hbG : fdG.body = .stmts (initBase nmG jG pG)) (hevG : SupEv pG)
    (SF : SupFn prog K f C q ["self", "place"] fd) (hb : fd.body = .stmts (initSub nm j p)) (hev : SupEv p)
    (hbindG : ∀ s u v, BindsTo s fdG ⟨[u, v], []⟩ [("self", u), ("place", v)]) (hbind : ∀ s u v, BindsTo s fd ⟨[u, v], []⟩ [("self", u), ("place", v)])
    (T : ExCls K C) (iC : findIn K (.ref C) "__init__" = some (some (.ref f))) (hG : clsIn K G = some cdG) (hC : clsIn K C = some cdC) (hsubG : mroIn K C (.ref G) = some true) (hsub : mroIn K C (.ref C) = some true)
    (hmG : ks_superIn K C G "__init__" = some (some (.builtin "ValueError.__init__"))) (hm : ks_superIn K C C "__init__" = some (some (.ref fG)))
    (hsuper : mg "super" = none) (htop : (prog.main.scope.names.lookup ("super" : Str)).isSome = false) (hboot : bootBuiltins "super" = some (.type "super"))
    (n1 : findIn K (.ref C) "place" = some none) (n2 : findIn K (.ref C) "name" = some none) : MkE prog w K mg C nm :=
  ⟨fun A R h hb0 g d t os u hr G0 kb hq => mk_run T G0 kb iC SF.ty (fun h1 x t0 R1 k1 xb hx hq1 => gate_sub ((Room.make (hr.mono (by omega)) C [u] []).mono (by omega : 4 ≤ 5)) SG hbG hevG SF hb hev G0 k1 xb hbindG (hbind _ _ _) T hx hG hC hC hsubG hsub hmG hm hsuper htop hboot n1 n2 hq1) hq, T.o.kC, T.o.exC, T.o.tyC⟩
end

/-! ### raise -/
/-- C(e) as the maker of an exception: its dict -/
def tMkE (C : Addr) (nm : Str) (te : TE) : L2.St → Hp → XK → Prop := fun σ H Q => te σ H fun v H1 => ∀ dx, H1 dx = none → Q (.ref C) (some dx) (upd H1 dx (.xd [("name", .str nm), ("place", v)]))
theorem Mod.gls {prog : Program} {K : Frag} {mg : Str → Option Value} {base : Heap} (M : Mod K mg base) : Gls prog K mg base := ⟨M.kin, M.glob, M.blt, M.nolimit⟩
theorem pmk_err {X : Cx} {C : Addr} {nm x : Str} {e : Expr} {te : TE} {p pos : Pos} (F : MkE X.prog X.w X.K X.mg C nm) (hr : Room 6 X.A) (hg : Gl X x) (hm : X.mg x = some (.ref C)) (he : PE X e te)
    (hdb : (x == ("__debug__" : Str)) = false := by decide) (hst : starEach [e] X.env = (false, eval e X.env) :: starEach [] X.env := by rfl) :
    PMk X (.Call (.Name x p) [e] [] pos) (tMkE C nm te) := by
  intro pins s σ H Q I h
  have ha : PA X [e] (tCons te tNil) := pa_cons he pa_nil hst
  refine wpAny_Call_Name_kw (ld_glob I hg hm ?_ hdb)
  refine PySem.W.callWith_K (h₀ := X.base) I.ok.mod.kin F.kC (thn (ha.run pos pins s σ H (fun vs H1 => match vs with
    | [v] => ∀ dx, H1 dx = none → Q (.ref C) (some dx) (upd H1 dx (.xd [("name", .str nm), ("place", v)]))
    | _ => False) I h) fun us s1 hh => ?_) hst
  obtain ⟨vs, H1, I1, rv, hz⟩ := hh
  refine ⟨I1.kIn, ?_⟩
  cases rv with
  | nil => exact hz.elim
  | cons r0 rr =>
    cases rr with
    | cons _ _ => exact hz.elim
    | nil =>
      rename_i v u
      obtain ⟨h, g, dr, t, os⟩ := s1
      refine wpAny_call (F.call X.A _ h X.base g dr t os u hr (Mod.gls I1.ok.mod) I1.bk fun h' tk tk0 e dx t1 k se sd dne hx hn => ?_)
      have hdn : H1 dx = none := I1.hok.fresh sd
      have hen : H1 e = none := I1.hok.fresh se
      obtain ⟨Gh, g1, g2⟩ := restrict h' fun b => decide (b ≠ e)
      have gk : ∀ b, b ≠ e → Gh.get? b = h'.get? b := fun b hb => g1 b (decide_eq_true hb)
      have ge : Gh.get? e = none := g2 e (by simp)
      have nhe : ∀ {b : Addr} {o : Obj}, h.get? b = some o → b ≠ e := fun z => Nat.ne_of_lt (Nat.lt_of_lt_of_le (Heap.lt_size z) se)
      have hnG : Gh.Ns1 dx (nmM nm tk0 u) := hn.at fun o z => (gk dx dne).trans z
      have J : Inv X pins σ (upd H1 dx (.xd [("name", .str nm), ("place", v)])) ⟨Gh, g, dr, tk, os⟩ :=
        I1.laid (t' := tk) (a := dx) (h' := Gh) (fun b o z => (gk b (nhe z)).trans (k b o z)) sd ⟨nmM nm tk0 u, hnG, fun f => ?_⟩
      · refine ⟨e, exoO C t1 (some dx), _, ⟨Gh, g, dr, tk, os⟩, _, .ref C, some dx, rfl, J, fun b o z => ?_, ge, hx, ⟨rfl, rfl⟩, rfl, rfl, ?_, rfl, I1.bare, raises_own F.exC F.tyC, hz dx hdn⟩
        · by_cases hb : b = e
          · rw [hb, ge] at z; cases z
          · exact (gk b hb).symm.trans z
        · rw [upd_ne (Ne.symm dne)]; exact hen
      · unfold nmM
        rw [lookup_put, lookup_put]
        by_cases h1 : f = "name"
        · simp only [h1, if_true]; exact ⟨tk0, rfl⟩
        · simp only [h1, if_false]
          by_cases h2 : f = "place"
          · simp only [h2, if_true]; exact r0
          · simp only [h2, if_false]; exact True.intro
/-- raise C(e) -/
def cRaise (nm : Str) (c : C) : CS := fun ρ S => .of ρ (c ρ S) fun d S => .err ⟨nm, [("name", .str nm), ("place", d)]⟩ ρ S
theorem ms_raise {X : Cx} {W : WX} {C : Addr} {nm : Str} {e : Expr} {ce : MP.C} {p p2 pos : Pos} (hc : X.calm = true) (tk : Takes X W) (F : MkE X.prog X.w X.K X.mg C nm) (hr : Room 6 X.A) (hg : Gl X nm) (hm : X.mg nm = some (.ref C)) (he : ME X W e ce)
    (hdb : (nm == ("__debug__" : Str)) = false := by decide) (hst : starEach [e] X.env = (false, eval e X.env) :: starEach [] X.env := by rfl) :
    MS X W (.Raise (some (.Call (.Name nm p) [e] [] p2)) none pos) (cRaise nm ce) := by
  refine ⟨(ps_raise hc tk (pmk_err F hr hg hm he.pe hdb hst)).imp fun D σ H h => ?_⟩
  obtain ⟨ρ, φ, S, hE, hs, h⟩ := h
  refine ⟨ρ, φ, S, hE, hs, OkS.from hE h fun d S1 φ1 H1 v q l s r z dx hdx => ?_⟩
  have aw := s.fresh hdx
  refine z φ1 _ σ (.ref C) (some dx) (Le.laid s hdx) (s.laid hdx) ((hE.mono l).mono (Le.laid s hdx)) ⟨C, dx, _, rfl, hm, rfl, upd_same, aw, rfl, ?_⟩
  exact .cons (.str nm) (.cons (r.laid hdx) .nil)
end MP

/-! MP: try with several clauses, each with or without a name. -/
namespace L2
open PySem PySem.Spec PyProof.Rows
abbrev SuT := Addr → Value → Option Addr → TS
abbrev offE (D : Ends) (i : Nat) : Ends := { nx := fun σ' H' => D.nx (σ'.set i none) H', rt := D.rt, bk := fun σ' H' => D.bk (σ'.set i none) H', ct := fun σ' H' => D.ct (σ'.set i none) H' }
/-- what the clauses wish of an exception of the body -/
def wMix (K : PySem.W.Frag) (Wout : WX) (D : Ends) : List (Value × Option Nat × SuT) → WX
  | [] => Wout
  | (c, none, ts) :: r => fun cls d σ H => ∃ b, PySem.W.exmOne K cls c = some b ∧ (b = true → ∀ a, H a = none → ts a cls d D σ H) ∧ (b = false → wMix K Wout D r cls d σ H)
  | (c, some i, ts) :: r => fun cls d σ H => ∃ b, PySem.W.exmOne K cls c = some b ∧ (b = true → ∀ a, H a = none → ts a cls d (offE D i) (σ.set i (some (.ref a))) H) ∧ (b = false → wMix K Wout D r cls d σ H)
inductive HdsM (X : Cx) : List ExceptHandler → List (Value × Option Nat × SuT) → Prop
  | nil : HdsM X [] []
  | cons {x : Str} {c : Value} {ts : SuT} {b₀ : Stmt} {suite : List Stmt} {np pos' : Pos} {hds : List ExceptHandler} {l : List (Value × Option Nat × SuT)} (hc : Names X x c)
      (hsu : ∀ (a : Addr) (oe : Obj) (cls : Value) (d : Option Addr) (pn : List (Addr × Obj)), Zc cls d oe → (∃ vs, oe.data = .fields vs) → PSs (X.suite a ((a, oe) :: pn)) (b₀ :: suite) (ts a cls d)) (r : HdsM X hds l) :
      HdsM X (.ExceptHandler (some (.Name x np)) none (b₀ :: suite) pos' :: hds) ((c, none, ts) :: l)
  | consAs {x n : Str} {i : Nat} {c : Value} {ts : SuT} {b₀ : Stmt} {suite : List Stmt} {np pos' : Pos} {hds : List ExceptHandler} {l : List (Value × Option Nat × SuT)} (hc : Names X x c) (hi : X.N[i]? = some n) (hln : X.env.kindOf n = some .local)
      (hsu : ∀ (a : Addr) (oe : Obj) (cls : Value) (d : Option Addr) (pn : List (Addr × Obj)), Zc cls d oe → (∃ vs, oe.data = .fields vs) → PSs (X.suite a ((a, oe) :: pn)) (b₀ :: suite) (ts a cls d)) (r : HdsM X hds l) :
      HdsM X (.ExceptHandler (some (.Name x np)) (some n) (b₀ :: suite) pos' :: hds) ((c, some i, ts) :: l)
section
variable {X : Cx} {body : List Stmt} {h₀ : ExceptHandler} {hds : List ExceptHandler} {l : List (Value × Option Nat × SuT)} {pos : Pos} {tb : WX → TS} {Wout : WX}
theorem ps_try_mix (hs : X.stack = X.env :: X.outer) (hf : X.env.frame = some X.env.locals) (hN : X.N.Nodup) (tk : Takes X Wout)
    (hb : ∀ (W : WX) (pn : List (Addr × Obj)) (xe : Value → Shared → Prop), Takes (X.tr pn xe) W → PassesOwn (model X.prog X.w) X.A X.env xe → PSs (X.tr pn xe) body (tb W))
    (hh : HdsM X (h₀ :: hds) l) : PS X (.Try body (h₀ :: hds) [] [] pos) (fun D σ H => tb (wMix X.K Wout D l) D σ H) := by
  refine ⟨fun pins s σ H D I h => ?_⟩
  have ok := I.ok
  have hfr : X.A.frames = some (X.env :: X.outer) := by rw [ok.frames, hs]
  refine wpAny_Try_except ?_
  refine wpAny_mono ((hb (wMix X.K Wout D l) (X.pn ++ pins) (fun e s₁ => wpAny (model X.prog X.w) X.A (noteFrame e X.env) (fun _ s₂ => wpAny (model X.prog X.w) X.A (setFlight e none) (fun _ s₃ =>
    wpAny (model X.prog X.w) X.A (handleBy e X.env (h₀ :: hds)) (SP X pins D) X.xe s₃) X.xe s₂) X.xe s₁) (fun u s' xx => ?_) PassesOwn.looking).run [] s σ H D (I.toTry _) h) (fun f s1 hsp => ?_) (fun e s1 he => he)
  · -- the catch
    obtain ⟨a, B, sI, pins', σ', H', cls, d, rfl, J', nb, up, sky, na, os, ag, w⟩ := xx
    have J : Inv X pins σ' H' sI := J'.ofTry ok
    have sky' : Sky B (X.env :: X.outer) a (Zc cls d) X.env.locals s'.heap := by rw [← hs]; exact sky
    show wpAny (model X.prog X.w) X.A (noteFrame (.ref a) X.env) _ _ _
    refine Sky.land Zc.steady hfr hf sky' fun h3 fl3 up3 => ?_
    have J3 : Inv X pins σ' H' { s' with heap := h3 } := J.landed nb fl3.1 (up.trans up3) os ag
    obtain ⟨oe3, vs3, he3, hz3, hd3⟩ := fl3.there
    have notFr : ∀ {h : Heap} {o : Obj} {vs : Array Value}, h.FunFrames B (X.env :: X.outer) → h.get? a = some o → o.data = .fields vs → a ∉ frs (X.env :: X.outer) := fun {h o vs} ff e dd hm => by
      obtain ⟨_, o', e', hnf⟩ := ff.mem hm
      rw [e] at e'; cases e'
      exact hnf _ dd
    have nfr := notFr fl3.2.2.1 he3 hd3
    have nL : a ≠ X.env.locals := fun z => nfr (List.mem_filterMap.mpr ⟨X.env, List.mem_cons_self, by rw [hf, z]⟩)
    have nF : a ∉ X.fs := fun hm => by
      obtain ⟨e, he, q⟩ := List.mem_filterMap.mp hm
      exact nfr (List.mem_filterMap.mpr ⟨e, List.mem_cons_of_mem _ he, q⟩)
    have S3 := J3.suite he3 hd3 na nL nF
    have LT : PySem.W.Looks (model X.prog X.w) h3 (typeOf (.ref a)) cls := fun A Q E s k q => wpAny_typeOf_ref (k _ _ he3) (by rw [hz3.1]; exact q)
    have testOf : ∀ {x : Str} {c : Value} {np : Pos}, Names X x c → ∀ {Q : Value → Shared → Prop} {E : Value → Shared → Prop}, Q c { s' with heap := h3 } → wpAny (model X.prog X.w) (X.A.mark (some (.ref a))) (eval (.Name x np) X.env) Q E { s' with heap := h3 } := fun {x c np} hc {Q E} q => by
      obtain ⟨hg, hdbg, hm | ⟨hm, hv, hnn⟩⟩ := hc
      · exact ld_glob (X := X.suite a ((a, oe3) :: (X.pn ++ pins))) S3 hg hm q hdbg
      · exact ld_blt (X := X.suite a ((a, oe3) :: (X.pn ++ pins))) S3 hg hm hv q hnn hdbg
    have go : ∀ {hds' : List ExceptHandler} {l' : List (Value × Option Nat × SuT)}, HdsM X hds' l' → wMix X.K Wout D l' cls d σ' H' →
        wpAny (model X.prog X.w) X.A (handleBy (.ref a) X.env hds') (SP X pins D) X.xe { s' with heap := h3 } := by
      intro hds' l' hk
      induction hk with
      | nil =>
        intro w
        refine wpAny_handleBy_nil ?_
        obtain ⟨k1, k2, k3, oe, vs, T, oT, ts', he, hz, hd, h1, hr⟩ := id fl3
        unfold PySem.passOn
        refine wpAny_bind (wpAny_field he hd h1 ?_)
        rw [if_neg (show ¬ ((Value.ref T == Value.none) = true) from by simp)]
        have fin : wpAny (model X.prog X.w) X.A (setFlight (.ref a) X.env.frame) (fun _ s4 => wpAny (model X.prog X.w) X.A (throw (.ref a) : Sem Flow) (SP X pins D) X.xe s4) X.xe { s' with heap := h3 } := by
          rw [hf]
          refine HandSPX.setFlight_upZ fl3 fun h4 hh4 up4 => wpAny_throw (tk _ _ ?_)
          exact ⟨a, B, sI, pins, σ', H', cls, d, rfl, J, nb, (up.trans up3).trans up4, .inr (.inr (by rw [hs]; exact hh4)), na, os, ag, w⟩
        first
          | exact wpAny_bind (wpAny_pure (wpAny_bind fin))
          | exact wpAny_bind fin
      | @cons x c ts b₀ suite np pos' hds2 l2 hc hsu r ih =>
        intro w
        obtain ⟨b, hb1, hyes, hno⟩ := w
        refine wpAny_handleBy_cons (codeAny_handlers_test ?_) (by intro q; cases q)
        have LM := PySem.W.exm_one (M := model X.prog X.w) (J3.kIn) LT hb1
        refine testOf hc (LM.here ?_)
        cases b with
        | true =>
          refine codeAny_handlers_suite ?_
          refine HandSPX.lands_againZ fl3 fun h4 fl4 up4 => ?_
          have J4 : Inv X pins σ' H' { s' with heap := h4 } := J.landed nb fl4.1 ((up.trans up3).trans up4) os ag
          obtain ⟨oe4, vs4, he4, hz4, hd4⟩ := fl4.there
          have S4 := J4.suite he4 hd4 na nL nF
          refine wpAny_mono ((hsu a oe4 cls d (X.pn ++ pins) hz4 ⟨_, hd4⟩).run [] _ _ H' _ S4 (hyes rfl a na)) (fun f s6 hsp => ?_) (fun _ _ z => False.elim z)
          cases f with
          | next =>
            obtain ⟨σ6, H6, S6, q6⟩ := hsp
            exact ⟨_, _, S6.unsuite ok, q6⟩
          | brk =>
            obtain ⟨σ6, H6, S6, q6⟩ := hsp
            exact ⟨_, _, S6.unsuite ok, q6⟩
          | cont =>
            obtain ⟨σ6, H6, S6, q6⟩ := hsp
            exact ⟨_, _, S6.unsuite ok, q6⟩
          | ret u =>
            obtain ⟨v6, σ6, H6, S6, r6, q6⟩ := hsp
            exact ⟨_, _, _, S6.unsuite ok, r6, q6⟩
        | false =>
          show wpAny _ X.A (handleBy (.ref a) X.env hds2) _ _ _
          exact ih (hno rfl)
      | @consAs x n i c ts b₀ suite np pos' hds2 l2 hc hi hln hsu r ih =>
        intro w
        obtain ⟨b, hb1, hyes, hno⟩ := w
        have hloc : Loc X.env.scope n := .inl hln
        refine wpAny_handleBy_cons (codeAny_handlers_test ?_) (by intro q; cases q)
        have LM := PySem.W.exm_one (M := model X.prog X.w) (J3.kIn) LT hb1
        refine testOf hc (LM.here ?_)
        cases b with
        | true =>
          refine codeAny_handlers_suite_as ?_
          refine HandSPX.lands_againZ fl3 fun h4 fl4 up4 => ?_
          have J4 : Inv X pins σ' H' { s' with heap := h4 } := J.landed nb fl4.1 ((up.trans up3).trans up4) os ag
          obtain ⟨oe4, vs4, he4, hz4, hd4⟩ := fl4.there
          have S4 := J4.suite he4 hd4 na nL nF
          refine store_ok (X := X.suite a ((a, oe4) :: (X.pn ++ pins))) (v := .ref a) S4 hN hi hloc rfl (fun s5 S5 => ?_) (.inr hln)
          refine wpAny_mono ((hsu a oe4 cls d (X.pn ++ pins) hz4 ⟨_, hd4⟩).run [] s5 _ H' _ S5 (hyes rfl a na)) (fun f s6 hsp => ?_) (fun _ _ z => False.elim z)
          have end_ : ∀ {σ6 : L2.St} {H6 : Hp} {Q : Shared → Prop}, Inv (X.suite a ((a, oe4) :: (X.pn ++ pins))) [] σ6 H6 s6 → (∀ s7, Inv X pins (σ6.set i none) H6 s7 → Q s7) →
              wpAny (model X.prog X.w) X.A (do bindName X.env n .none; unbindBehindTheSuite X.env n pos') (fun _ s7 => Q s7) X.xe s6 := fun {σ6 H6 Q} S6 hq => gone_ok (S6.unsuite ok) hN hi hln hq
          cases f with
          | next =>
            obtain ⟨σ6, H6, S6, q6⟩ := hsp
            exact end_ S6 fun s7 J7 => ⟨_, _, J7, q6⟩
          | brk =>
            obtain ⟨σ6, H6, S6, q6⟩ := hsp
            exact end_ S6 fun s7 J7 => ⟨_, _, J7, q6⟩
          | cont =>
            obtain ⟨σ6, H6, S6, q6⟩ := hsp
            exact end_ S6 fun s7 J7 => ⟨_, _, J7, q6⟩
          | ret u =>
            obtain ⟨v6, σ6, H6, S6, r6, q6⟩ := hsp
            exact end_ S6 fun s7 J7 => ⟨_, _, _, J7, r6, q6⟩
        | false =>
          show wpAny _ X.A (handleBy (.ref a) X.env hds2) _ _ _
          exact ih (hno rfl)
    exact go hh w
  · cases f with
    | next =>
      obtain ⟨σ', H', J', q⟩ := hsp
      exact wpAny_execs_nil ⟨σ', H', J'.ofTry ok, q⟩
    | brk =>
      obtain ⟨σ', H', J', q⟩ := hsp
      exact ⟨σ', H', J'.ofTry ok, q⟩
    | cont =>
      obtain ⟨σ', H', J', q⟩ := hsp
      exact ⟨σ', H', J'.ofTry ok, q⟩
    | ret u =>
      obtain ⟨v, σ', H', J', r, q⟩ := hsp
      exact ⟨v, σ', H', J'.ofTry ok, r, q⟩
end
end L2
namespace MP
open PySem PySem.Spec PyProof.Rows L2
theorem RX.mono {K : PySem.W.Frag} {mg : Str → Option Value} {φ φ' : Phi} {H H' : Hp} {x : Exn} {cls : Value} {d : Option Addr} (e : Le φ H φ' H') (h : RX K mg φ H x cls d) : RX K mg φ' H' x cls d := by
  obtain ⟨a, dx, vs, e1, e2, e3, e4, e5, e6, e7⟩ := h
  obtain ⟨h1, h2⟩ := e.stay _ _ e4 e5
  exact ⟨a, dx, vs, e1, e2, e3, h1, h2, e6, RelL.mono e e7⟩
/-- a caught exception: its name's slot, its place, its class and dict -/
structure XI where
  i : Option Nat
  a : Addr
  cls : Value
  d : Option Addr
def Held (K : PySem.W.Frag) (mg : Str → Option Value) (J : XI) (x : Exn) (φ : Phi) (H : Hp) (σ : L2.St) : Prop := RX K mg φ H x J.cls J.d ∧ ∀ k, J.i = some k → σ[k]? = some (some (.ref J.a))
theorem Held.mono {K : PySem.W.Frag} {mg : Str → Option Value} {J : XI} {x : Exn} {φ φ' : Phi} {H H' : Hp} {σ : L2.St} (h : Held K mg J x φ H σ) (e : Le φ H φ' H') : Held K mg J x φ' H' σ := ⟨h.1.mono e, h.2⟩
structure MEx (Y : Cx) (J : XI) (e : Expr) (c : Exn → C) : Prop where
  pe : PE Y e (fun σ H Q => ∃ x ρ φ S, RE Y.K φ H ρ σ ∧ RS Y.K φ H S ∧ Held Y.K Y.mg J x φ H σ ∧ Ok Y.K Y.mg (Rel Y.K) φ H (fun _ _ _ => False) Q (c x ρ S))
structure MTx (Y : Cx) (J : XI) (e : Expr) (c : Exn → CT) : Prop where
  pt : PT Y e (fun σ H Q => ∃ x ρ φ S, RE Y.K φ H ρ σ ∧ RS Y.K φ H S ∧ Held Y.K Y.mg J x φ H σ ∧ Ok Y.K Y.mg eqB φ H (fun _ _ _ => False) Q (c x ρ S))
structure MAx (Y : Cx) (J : XI) (es : List Expr) (c : Exn → CA) : Prop where
  pa : PA Y es (fun σ H Q => ∃ x ρ φ S, RE Y.K φ H ρ σ ∧ RS Y.K φ H S ∧ Held Y.K Y.mg J x φ H σ ∧ Ok Y.K Y.mg (RelL Y.K) φ H (fun _ _ _ => False) Q (c x ρ S))
  len : ∀ x ρ S ds S', c x ρ S = .ok ds S' → ds.length = es.length
structure MSx (Y : Cx) (J : XI) (st : Stmt) (c : Exn → CS) : Prop where
  ps : PS Y st (fun D σ H => ∃ x ρ φ S, RE Y.K φ H ρ σ ∧ RS Y.K φ H S ∧ Held Y.K Y.mg J x φ H σ ∧ OkS Y.K Y.mg φ H W0 D (c x ρ S))
structure MSsx (Y : Cx) (J : XI) (st : List Stmt) (c : Exn → CS) : Prop where
  ps : PSs Y st (fun D σ H => ∃ x ρ φ S, RE Y.K φ H ρ σ ∧ RS Y.K φ H S ∧ Held Y.K Y.mg J x φ H σ ∧ OkS Y.K Y.mg φ H W0 D (c x ρ S))
section
variable {Y : Cx} {J : XI} {e a b : Expr} {es : List Expr} {pos : Pos}
theorem mx_lift {c : C} (h : ME Y W0 e c) : MEx Y J e (fun _ => c) := ⟨h.pe.imp fun σ H Q z => by
  obtain ⟨x, ρ, φ, S, h1, h2, _, h3⟩ := z
  exact ⟨ρ, φ, S, h1, h2, h3⟩⟩
theorem mtx_lift {c : CT} (h : MT Y W0 e c) : MTx Y J e (fun _ => c) := ⟨h.pt.imp fun σ H Q z => by
  obtain ⟨x, ρ, φ, S, h1, h2, _, h3⟩ := z
  exact ⟨ρ, φ, S, h1, h2, h3⟩⟩
theorem max_nil : MAx Y J [] (fun _ => caNil) := ⟨pa_nil.imp fun σ H Q h => by
    obtain ⟨x, ρ, φ, S, he, hs, hx, h⟩ := h
    exact h φ H [] (Le.refl _ _) hs .nil, fun x ρ S ds S' h => by cases h; rfl⟩
theorem max_cons {a : Exn → C} {b : Exn → CA} (ha : MEx Y J e a) (hb : MAx Y J es b) (hs : starEach (e :: es) Y.env = (false, eval e Y.env) :: starEach es Y.env := by rfl) : MAx Y J (e :: es) (fun x => caCons (a x) (b x)) := by
  refine ⟨(pa_cons ha.pe hb.pa hs).imp fun σ H Q h => ?_, fun x ρ S ds S' h => ?_⟩
  · obtain ⟨x, ρ, φ, S, he, hs, hx, h⟩ := h
    refine ⟨x, ρ, φ, S, he, hs, hx, h.step fun d S1 φ1 H1 v q l s r h => ?_⟩
    refine ⟨x, ρ, φ1, S1, he.mono l, s, hx.mono l, h.step fun ds S2 φ2 H2 vs q2 l2 s2 r2 h => ?_⟩
    exact h φ2 H2 _ (Le.refl _ _) s2 (.cons (r.mono l2) r2)
  · unfold caCons at h
    cases q : a x ρ S with
    | ok d S1 =>
      rw [q, R.bind_ok] at h
      cases q2 : b x ρ S1 with
      | ok ds2 S2 =>
        rw [q2, R.bind_ok] at h
        injection h with h1 h2
        rw [← h1]
        simp [hb.len _ _ _ _ _ q2]
      | err x S2 => rw [q2] at h; cases h
      | bad => rw [q2] at h; cases h
    | err x S1 => rw [q] at h; cases h
    | bad => rw [q] at h; cases h
theorem mx_tup {c : Exn → CA} {k : Nat} (h : MAx Y J es c) (hz : es.length ≤ 1000 := by decide) : MEx Y J (.Tuple es k pos) (fun x => cTup (c x)) := by
  refine ⟨(pe_tup h.pa).imp fun σ H Q z => ?_⟩
  obtain ⟨x, ρ, φ, S, hE, hs, hx, z⟩ := z
  unfold tTup
  refine ⟨x, ρ, φ, S, hE, hs, hx, z.step fun ds S1 φ1 H1 vs q l s r z => ?_⟩
  have hl : vs.length ≤ sizeLine := by rw [← r.length, h.len _ _ _ _ _ q, sizeLine_eq]; omega
  refine ⟨hl, fun p hp => ?_⟩
  exact z φ1 _ _ (Le.laid s hp) (s.laid hp) (.tup hl (.inl ⟨.inl upd_same, s.fresh hp⟩) (r.laid hp))
theorem mx_op {op : Operator} {g : G2} {ca cb : Exn → C} (ho : OS Y (binaryOp op) g) (ha : MEx Y J a ca) (hb : MEx Y J b cb) : MEx Y J (.BinOp a op b pos) (fun x => cB g (ca x) (cb x)) := by
  obtain ⟨r, hr, k⟩ := ho
  refine ⟨(pe_op hr ha.pe hb.pe).imp fun σ H Q h => ?_⟩
  obtain ⟨x, ρ, φ, S, he, hs, hx, h⟩ := h
  refine ⟨x, ρ, φ, S, he, hs, hx, h.step fun d S1 φ1 H1 v q l s rx h => ?_⟩
  refine ⟨x, ρ, φ1, S1, he.mono l, s, hx.mono l, h.step fun d2 S2 φ2 H2 v2 q2 l2 s2 ry h => ?_⟩
  exact k W0 σ φ2 H2 S2 d d2 v v2 Q s2 (rx.mono l2) ry h
theorem mx_cmp {op : CmpOp} {g : G2} {ca cb : Exn → C} (ho : OS Y (compareOp op) g) (ha : MEx Y J a ca) (hb : MEx Y J b cb) (hm : behindInMarks op b = false) : MEx Y J (.Compare a [op] [b] pos) (fun x => cB g (ca x) (cb x)) := by
  obtain ⟨r, hr, k⟩ := ho
  refine ⟨(pe_cmpR hr ha.pe hb.pe hm).imp fun σ H Q h => ?_⟩
  obtain ⟨x, ρ, φ, S, he, hs, hx, h⟩ := h
  refine ⟨x, ρ, φ, S, he, hs, hx, h.step fun d S1 φ1 H1 v q l s rx h => ?_⟩
  refine ⟨x, ρ, φ1, S1, he.mono l, s, hx.mono l, h.step fun d2 S2 φ2 H2 v2 q2 l2 s2 ry h => ?_⟩
  exact k W0 σ φ2 H2 S2 d d2 v v2 Q s2 (rx.mono l2) ry h
/-- e.f of the caught exception -/
def cXf (errs : List Str) (x : Exn) (f : Str) : C := fun _ S => if x.c ∈ errs then match x.fs.lookup f with
  | some d => .ok d S
  | none => .bad else .bad
theorem lookup_rel {K : PySem.W.Frag} {φ : Phi} {H : Hp} {f : Str} {d : D} : ∀ {fs : List (Str × D)} {vs : List (Str × V)}, fs.map (·.1) = vs.map (·.1) → RelL K φ H (fs.map (·.2)) (vs.map (·.2)) → fs.lookup f = some d → ∃ v, vs.lookup f = some v ∧ Rel K φ H d v
  | [], _, _, _, h => by simp at h
  | (y, z) :: fs, [], e, _, _ => by simp at e
  | (y, z) :: fs, (y', v) :: vs, e, r, h => by
    simp only [List.map_cons, List.cons.injEq] at e r
    obtain ⟨e1, e2⟩ := e
    subst e1
    cases r with
    | cons r1 r2 =>
      rw [List.lookup] at h ⊢
      cases q : f == y with
      | true =>
        simp only [q] at h ⊢
        cases h
        exact ⟨v, rfl, r1⟩
      | false =>
        simp only [q] at h ⊢
        exact lookup_rel e2 r2 h
/-- every class of the list can be read of -/
def XfOk (K : PySem.W.Frag) (mg : Str → Option Value) (errs : List Str) : Prop := ∀ c ∈ errs, ∀ C, mg c = some (.ref C) → XfC K C ∧ PySem.W.findIn K (.ref C) "place" = some none ∧ PySem.W.findIn K (.ref C) "name" = some none
end
section
variable {X : Cx} {a : Addr} {oe : Obj} {cls : Value} {d : Option Addr} {pn : List (Addr × Obj)} {i : Nat} {n f : Str} {p pos : Pos} {errs : List Str}
theorem mx_fld (XF : XfOk X.K X.mg errs) (hf : f = "place" ∨ f = "name") (hz : Zc cls d oe) (ho : ∃ vs, oe.data = .fields vs) (hN : X.N[i]? = some n) (hv : Vis X.env.scope n) (hd : (n == ("__debug__" : Str)) = false := by decide) (hcd : (n == ("__classdict__" : Str)) = false := by decide)
    (hb : attributeBase (.Name n p) f X.env (eval (.Name n p) X.env) = eval (.Name n p) X.env := by rfl) :
    MEx (X.suite a ((a, oe) :: pn)) ⟨some i, a, cls, d⟩ (.Attribute (.Name n p) f pos) (fun x => cXf errs x f) := by
  have hvar : PE (X.suite a ((a, oe) :: pn)) (.Name n p) (tVar i) := pe_var (i := i) hN hv hd hcd
  by_cases hC : ∃ c C, c ∈ errs ∧ X.mg c = some (.ref C) ∧ cls = .ref C
  · obtain ⟨c, C, h1, h2, rfl⟩ := hC
    obtain ⟨xf, n1, n2⟩ := XF c h1 C h2
    have hno : PySem.W.findIn X.K (.ref C) f = some none := by
      rcases hf with rfl | rfl
      · exact n1
      · exact n2
    refine ⟨(pe_xf xf hno hz ho hvar hb).imp fun σ H Q h => ?_⟩
    obtain ⟨x, ρ, φ, S, hE, hs, ⟨hx, hσ⟩, h⟩ := h
    obtain ⟨aC, dx, vs, e1, e2, e3, e4, e5, e6, e7⟩ := hx
    refine ⟨.ref a, hσ i rfl, rfl, rfl, dx, vs, ?_⟩
    unfold cXf at h
    by_cases hc : x.c ∈ errs
    · simp only [hc, if_true] at h
      cases q : x.fs.lookup f with
      | none => simp only [q] at h; exact h.elim
      | some dv =>
        simp only [q] at h
        obtain ⟨v, hv1, hv2⟩ := lookup_rel e6 e7 q
        exact ⟨v, e3, e4, hv1, h φ H v (Le.refl _ _) hs hv2⟩
    · simp only [hc, if_false] at h
      exact h.elim
  · refine ⟨⟨fun pins s σ H Q I h => ?_⟩⟩
    obtain ⟨x, ρ, φ, S, hE, hs, ⟨hx, hσ⟩, h⟩ := h
    obtain ⟨aC, dx, vs, e1, e2, _⟩ := hx
    unfold cXf at h
    by_cases hc : x.c ∈ errs
    · exact absurd ⟨x.c, aC, hc, e2, e1⟩ hC
    · simp only [hc, if_false] at h
      exact h.elim
end
section
variable {Y : Cx} {J : XI} {e : Expr} {st : Stmt} {rest : List Stmt} {pos : Pos}
theorem msx_lift {c : CS} (h : MS Y W0 st c) : MSx Y J st (fun _ => c) := ⟨h.ps.imp fun D σ H z => by
  obtain ⟨x, ρ, φ, S, h1, h2, _, h3⟩ := z
  exact ⟨ρ, φ, S, h1, h2, h3⟩⟩
theorem msx_ret {c : Exn → C} (he : MEx Y J e c) : MSx Y J (.Return (some e) pos) (fun x => cRet (c x)) := by
  refine ⟨(ps_ret he.pe).imp fun D σ H h => ?_⟩
  obtain ⟨x, ρ, φ, S, hE, hs, hx, h⟩ := h
  exact ⟨x, ρ, φ, S, hE, hs, hx, OkS.from (W := W0) hE h fun d S1 φ1 H1 v q l s r z => z φ1 H1 v (Le.refl _ _) s r⟩
/-- n = e, n another local -/
theorem msx_set {c : Exn → C} (i : Nat) {y : Str} {pos' : Pos} (hN : Y.N.Nodup) (hi : Y.N[i]? = some y) (hx : Loc Y.env.scope y) (he : MEx Y J e c) (hs : swapsWith e (some (.Name y pos')) pos.line Y.env = pure false := by rfl) (hf : Y.fn y = true ∨ Y.env.scope.names.lookup y = some .local := by first | exact .inl rfl | exact .inr rfl | assumption) :
    MSx Y J (.Assign [.Name y pos'] e pos) (fun x => cAsg (tgN i) (c x)) := by
  refine ⟨(ps_set hN hi hx he.pe hs hf).imp fun D σ H h => ?_⟩
  obtain ⟨x, ρ, φ, S, hE, hs, hxx, h⟩ := h
  refine ⟨x, ρ, φ, S, hE, hs, hxx, OkS.from (W := W0) hE h fun d S1 φ1 H1 v q l s r z => ?_⟩
  exact z φ1 H1 _ (Le.refl _ _) s ((hE.mono l).set r i)
theorem mssx_one {c : Exn → CS} (h : MSx Y J st c) : MSsx Y J [st] c := ⟨pss_one h.ps⟩
end

/-! ### try -/
def RSt.off (i : Nat) : RSt → RSt
  | .nx ρ S => .nx (ρ.set i none) S
  | .brk ρ S => .brk (ρ.set i none) S
  | .cnt ρ S => .cnt (ρ.set i none) S
  | .ret d S => .ret d S
  | _ => .bad
def RSt.noerr : RSt → RSt
  | .err _ _ _ => .bad
  | r => r
@[simp] theorem RSt.noerr_nx (ρ : Ro) (S : Sto) : (RSt.nx ρ S).noerr = .nx ρ S := (rfl)
@[simp] theorem RSt.noerr_ret (d : D) (S : Sto) : (RSt.ret d S).noerr = .ret d S := (rfl)
@[simp] theorem RSt.noerr_brk (ρ : Ro) (S : Sto) : (RSt.brk ρ S).noerr = .brk ρ S := (rfl)
@[simp] theorem RSt.noerr_cnt (ρ : Ro) (S : Sto) : (RSt.cnt ρ S).noerr = .cnt ρ S := (rfl)
@[simp] theorem RSt.off_nx (i : Nat) (ρ : Ro) (S : Sto) : (RSt.nx ρ S).off i = .nx (ρ.set i none) S := (rfl)
@[simp] theorem RSt.off_ret (i : Nat) (d : D) (S : Sto) : (RSt.ret d S).off i = .ret d S := (rfl)
@[simp] theorem RSt.off_brk (i : Nat) (ρ : Ro) (S : Sto) : (RSt.brk ρ S).off i = .brk (ρ.set i none) S := (rfl)
@[simp] theorem RSt.off_cnt (i : Nat) (ρ : Ro) (S : Sto) : (RSt.cnt ρ S).off i = .cnt (ρ.set i none) S := (rfl)
def hdL (errs : List Str) (sub : Str → Str → Bool) : List (Str × Option Nat × (Exn → CS)) → Exn → CS
  | [], x => fun ρ S => .err x ρ S
  | (c, none, s) :: r, x => fun ρ S => if x.c ∈ errs then if sub x.c c then (s x ρ S).noerr else hdL errs sub r x ρ S else .bad
  | (c, some i, s) :: r, x => fun ρ S => if x.c ∈ errs then if sub x.c c then (if i < ρ.length then (s x (ρ.set i none) S).off i else .bad) else hdL errs sub r x ρ S else .bad
def cTry (errs : List Str) (sub : Str → Str → Bool) (b : CS) (hs : List (Str × Option Nat × (Exn → CS))) : CS := fun ρ S => match b ρ S with
  | .err x ρ' S' => hdL errs sub hs x ρ' S'
  | r => r
/-- the table of what is over what is right -/
def SubOk (K : PySem.W.Frag) (mg : Str → Option Value) (errs : List Str) (sub : Str → Str → Bool) : Prop := ∀ c ∈ errs, ∀ h ∈ errs, ∀ C D, mg c = some (.ref C) → mg h = some (.ref D) → PySem.W.exmOne K (.ref C) (.ref D) = some (sub c h)
/-- nothing is let out of a suite -/
def noErr (c : Exn → CS) : Prop := True
inductive HdsX (X : Cx) (errs : List Str) : List ExceptHandler → List (Str × Option Nat × (Exn → CS)) → Prop
  | nil : HdsX X errs [] []
  | cons {x : Str} {C : Addr} {c : Exn → CS} {b₀ : Stmt} {suite : List Stmt} {np pos' : Pos} {hds : List ExceptHandler} {l : List (Str × Option Nat × (Exn → CS))} (hg : Gl X x) (hm : X.mg x = some (.ref C)) (he : x ∈ errs) (hd : (x == ("__debug__" : Str)) = false)
      (hsu : ∀ (a : Addr) (oe : Obj) (cls : Value) (d : Option Addr) (pn : List (Addr × Obj)), Zc cls d oe → (∃ vs, oe.data = .fields vs) → MSsx (X.suite a ((a, oe) :: pn)) ⟨none, a, cls, d⟩ (b₀ :: suite) c) (r : HdsX X errs hds l) :
      HdsX X errs (.ExceptHandler (some (.Name x np)) none (b₀ :: suite) pos' :: hds) ((x, none, c) :: l)
  | consAs {x n : Str} {i : Nat} {C : Addr} {c : Exn → CS} {b₀ : Stmt} {suite : List Stmt} {np pos' : Pos} {hds : List ExceptHandler} {l : List (Str × Option Nat × (Exn → CS))} (hg : Gl X x) (hm : X.mg x = some (.ref C)) (he : x ∈ errs) (hd : (x == ("__debug__" : Str)) = false)
      (hi : X.N[i]? = some n) (hln : X.env.kindOf n = some .local)
      (hsu : ∀ (a : Addr) (oe : Obj) (cls : Value) (d : Option Addr) (pn : List (Addr × Obj)), Zc cls d oe → (∃ vs, oe.data = .fields vs) → MSsx (X.suite a ((a, oe) :: pn)) ⟨some i, a, cls, d⟩ (b₀ :: suite) c) (r : HdsX X errs hds l) :
      HdsX X errs (.ExceptHandler (some (.Name x np)) (some n) (b₀ :: suite) pos' :: hds) ((x, some i, c) :: l)
theorem RE.unset {K : PySem.W.Frag} {φ : Phi} {H : Hp} {ρ : Ro} {σ : L2.St} (h : RE K φ H ρ σ) (i : Nat) (v : Option V) : RE K φ H (ρ.set i none) (σ.set i v) := by
  refine ⟨by simpa using h.1, fun j d q => ?_⟩
  by_cases e : i = j
  · subst e
    have hl : i < ρ.length := by
      have := (List.getElem?_eq_some_iff.mp q).1
      simpa using this
    rw [List.getElem?_set_self hl] at q
    cases q
  · rw [List.getElem?_set_ne e] at q
    rw [List.getElem?_set_ne e]
    exact h.2 j d q
/-- the reading of a suite -/
def rdX (X : Cx) (i : Option Nat) (c : Exn → CS) : SuT := fun a cls d D σ H => ∃ x ρ φ S, RE X.K φ H ρ σ ∧ RS X.K φ H S ∧ Held X.K X.mg ⟨i, a, cls, d⟩ x φ H σ ∧ OkS X.K X.mg φ H W0 D (c x ρ S)
theorem OkS.off {K : PySem.W.Frag} {mg : Str → Option Value} {φ : Phi} {H : Hp} {W : WX} {D : Ends} {i : Nat} {r : RSt} (h : OkS K mg φ H W D (r.off i)) : OkS K mg φ H W0 (offE D i) r := by
  cases r with
  | nx ρ S => exact fun φ' H' σ' l s re => h φ' H' _ l s (re.unset i none)
  | brk ρ S => exact fun φ' H' σ' l s re => h φ' H' _ l s (re.unset i none)
  | cnt ρ S => exact fun φ' H' σ' l s re => h φ' H' _ l s (re.unset i none)
  | ret d S => exact h
  | err x ρ S => exact h.elim
  | bad => exact h
theorem OkS.noerr {K : PySem.W.Frag} {mg : Str → Option Value} {φ : Phi} {H : Hp} {W : WX} {D : Ends} {r : RSt} (h : OkS K mg φ H W D r.noerr) : OkS K mg φ H W0 D r := by
  cases r <;> first | exact h | exact h.elim
section
variable {X : Cx} {W : WX} {body : List Stmt} {h₀ : ExceptHandler} {hds : List ExceptHandler} {l : List (Str × Option Nat × (Exn → CS))} {errs : List Str} {sub : Str → Str → Bool} {pos : Pos} {cb : CS}
theorem hds_mix (SU : SubOk X.K X.mg errs sub) (h : HdsX X errs hds l) : ∃ l' : List (Value × Option Nat × SuT), HdsM X hds l' ∧ ∀ (D : Ends) (x : Exn) (ρ : Ro) (φ : Phi) (S : Sto) (σ : L2.St) (H : Hp) (cls : Value) (d : Option Addr),
    RE X.K φ H ρ σ → RS X.K φ H S → RX X.K X.mg φ H x cls d → OkS X.K X.mg φ H W D (hdL errs sub l x ρ S) → wMix X.K W D l' cls d σ H := by
  induction h with
  | nil => exact ⟨[], .nil, fun D x ρ φ S σ H cls d re rs rx h => h φ H σ cls d (Le.refl _ _) rs re rx⟩
  | @cons y C c b₀ suite np pos' hds l hg hm he hd hsu r ih =>
    obtain ⟨l', h1, h2⟩ := ih
    refine ⟨(.ref C, none, rdX X none c) :: l', .cons ⟨hg, hd, .inl hm⟩ (fun a oe cls d pn hz ho => (hsu a oe cls d pn hz ho).ps) h1, fun D x ρ φ S σ H cls d re rs rx h => ?_⟩
    obtain ⟨aC, dx, vs, e1, e2, e3⟩ := id rx
    unfold hdL at h
    by_cases hx : x.c ∈ errs
    · simp only [hx, if_true] at h
      refine ⟨sub x.c y, by rw [e1]; exact SU _ hx _ he _ _ e2 hm, fun hb a na => ?_, fun hb => ?_⟩
      · simp only [hb, if_true] at h
        exact ⟨x, ρ, φ, S, re, rs, ⟨rx, fun k z => by cases z⟩, OkS.noerr h⟩
      · simp only [hb, Bool.false_eq_true, if_false] at h
        exact h2 D x ρ φ S σ H cls d re rs rx h
    · simp only [hx, if_false] at h
      exact h.elim
  | @consAs y n i C c b₀ suite np pos' hds l hg hm he hd hi hln hsu r ih =>
    obtain ⟨l', h1, h2⟩ := ih
    refine ⟨(.ref C, some i, rdX X (some i) c) :: l', .consAs ⟨hg, hd, .inl hm⟩ hi hln (fun a oe cls d pn hz ho => (hsu a oe cls d pn hz ho).ps) h1, fun D x ρ φ S σ H cls d re rs rx h => ?_⟩
    obtain ⟨aC, dx, vs, e1, e2, e3⟩ := id rx
    unfold hdL at h
    by_cases hx : x.c ∈ errs
    · simp only [hx, if_true] at h
      refine ⟨sub x.c y, by rw [e1]; exact SU _ hx _ he _ _ e2 hm, fun hb a na => ?_, fun hb => ?_⟩
      · simp only [hb, if_true] at h
        by_cases hl : i < ρ.length
        · simp only [hl, if_true] at h
          refine ⟨x, ρ.set i none, φ, S, re.unset i _, rs, ⟨rx, fun k z => ?_⟩, OkS.off h⟩
          cases z
          exact List.getElem?_set_self (by rw [← re.1]; exact hl)
        · simp only [hl, if_false] at h
          exact h.elim
      · simp only [hb, Bool.false_eq_true, if_false] at h
        exact h2 D x ρ φ S σ H cls d re rs rx h
    · simp only [hx, if_false] at h
      exact h.elim
theorem ms_try (hs : X.stack = X.env :: X.outer) (hf : X.env.frame = some X.env.locals) (hN : X.N.Nodup) (tk : Takes X W) (SU : SubOk X.K X.mg errs sub)
    (hb : ∀ (W' : WX) (pn : List (Addr × Obj)) (xe : Value → Shared → Prop), Takes (X.tr pn xe) W' → PassesOwn (model X.prog X.w) X.A X.env xe → MSs (X.tr pn xe) W' body cb) (hh : HdsX X errs (h₀ :: hds) l) :
    MS X W (.Try body (h₀ :: hds) [] [] pos) (cTry errs sub cb l) := by
  obtain ⟨l', h1, h2⟩ := hds_mix (W := W) SU hh
  refine ⟨(ps_try_mix (tb := fun W' => rdS X W' cb) hs hf hN tk (fun W' pn xe t p => (hb W' pn xe t p).ps) h1).imp fun D σ H h => ?_⟩
  obtain ⟨ρ, φ, S, hE, hS, h⟩ := h
  refine ⟨ρ, φ, S, hE, hS, ?_⟩
  unfold cTry at h
  cases q : cb ρ S with
  | nx ρ1 S1 => rw [q] at h; exact h
  | ret d S1 => rw [q] at h; exact h
  | brk ρ1 S1 => rw [q] at h; exact h
  | cnt ρ1 S1 => rw [q] at h; exact h
  | err x ρ1 S1 =>
    rw [q] at h
    exact fun φ' H' σ' cls dx le rs re rx => h2 D x ρ1 φ' S1 σ' H' cls dx re rs rx (OkS.later le h)
  | bad => rw [q] at h; exact h.elim
end
end MP

/-! MP: the facts of own exception classes, out of the written part. -/
namespace MP
open PySem PySem.Spec PySem.W PySem.Calls PyProof.Rows PySem.HandSPX L2

theorem _root_.L2.Room.units65 {k : Nat} {A : Around} (r : Room k A) : A.units + 65 < cLine := by have := r.un; omega
def clsBody : Stmt → List Stmt
  | .ClassDef _ _ _ b _ _ _ _ _ _ _ => b
  | _ => []
def noPos : Pos := ⟨0, 0, 0, 0⟩
def initPos : List Stmt → Nat → Pos
  | [.Expr (.Call (.Attribute (.Call (.Name _ p0) _ _ p1) _ p2) [.Name _ p3] _ p4) p5, .Assign [.Attribute (.Name _ p6) _ p7] (.Name _ p8) p9, .Assign [.Attribute (.Name _ p10) _ p11] (.Constant _ _ p12) p13], n =>
    [p0, p1, p2, p3, p4, p5, p6, p7, p8, p9, p10, p11, p12, p13].getD n noPos
  | [.Expr (.Call (.Attribute (.Call (.Name _ p0) _ _ p1) _ p2) [.Name _ p3] _ p4) p5, .Assign [.Attribute (.Name _ p10) _ p11] (.Constant _ _ p12) p13], n =>
    [p0, p1, p2, p3, p4, p5, noPos, noPos, noPos, noPos, p10, p11, p12, p13].getD n noPos
  | _, _ => noPos
/-- the shape of the class -/
def errShape (K : Frag) (C : Addr) : Bool := match K.lookup C with
  | some ⟨.type "type", _, .cls cd, sl⟩ => (match cd.mro, sl.toList with
    | .ref C' :: bm, [_, _, _, _, some (.builtin n), _] => C' == C && n == "ValueError.__new__" && !cd.hasDel && cd.hasDict && refsVE bm
    | _, _ => false)
  | _ => false
theorem errShape_ok {K : Frag} {C : Addr} (q : errShape K C = true) : (∃ nm q N bs bm sn sub ab col dd k0 k1 k2 k3 k5, K.lookup C = some (excClassObj nm q C N bs bm true sn sub ab col dd k0 k1 k2 k3 k5 "ValueError.__new__") ∧ refsVE bm = true) ∧ ∃ cd, clsIn K C = some cd := by
  unfold errShape at q
  split at q
  · rename_i dd cd sl ho
    split at q
    · rename_i C' bm k0 k1 k2 k3 n k5 hm hs
      simp only [Bool.and_eq_true, beq_iff_eq, Bool.not_eq_true'] at q
      obtain ⟨⟨⟨⟨rfl, rfl⟩, hdel⟩, hdict⟩, ht⟩ := q
      refine ⟨?_, cd, by unfold clsIn; rw [ho] <;> rfl⟩
      obtain ⟨nm, bs, mro, ns, qn, hd, sn, sub, ab, col, del⟩ := cd
      dsimp only at hm hdel hdict
      subst hm hdel hdict
      have hsl : sl = #[k0, k1, k2, k3, some (.builtin "ValueError.__new__"), k5] := by
        obtain ⟨l⟩ := sl
        simp only at hs
        rw [hs]
      subst hsl
      exact ⟨nm, qn, ns, bs, bm, sn, sub, ab, col, dd, k0, k1, k2, k3, k5, ho, ht⟩
    · cases q
  · cases q
/-- what is asked of the class at C, whose __init__ is at f; init: what lies behind it -/
def errB (K : Frag) (C f : Addr) (init : Value) : Bool :=
  errShape K C && (decide (findIn K (.ref C) "__setattr__" = some (some (.builtin "object.__setattr__"))) && (decide (subIn K (.ref C) (.type "BaseException") = some true) && (decide (subIn K (.ref C) (.type "ValueError") = some true) && (decide (typeIn K (.ref C) = some (.type "type")) &&
  (keepIn K (.ref C) && (decide (nsIn K cStatics "thirdparty.any" = some none) && (decide (mroIn K C (.ref C) = some true) && (decide (findIn K (.ref C) "__init__" = some (some (.ref f))) && (decide (typeIn K (.ref f) = some (.type "function")) &&
  (decide (ks_superIn K C C "__init__" = some (some init)) && (decide (findIn K (.ref C) "place" = some none) && (decide (findIn K (.ref C) "name" = some none) && xfB K C))))))))))))
structure ErrF (K : Frag) (C f : Addr) (init : Value) : Prop where
  T : ExCls K C
  cd : ∃ cd, clsIn K C = some cd
  mro : mroIn K C (.ref C) = some true
  iC : findIn K (.ref C) "__init__" = some (some (.ref f))
  tf : typeIn K (.ref f) = some (.type "function")
  su : ks_superIn K C C "__init__" = some (some init)
  n1 : findIn K (.ref C) "place" = some none
  n2 : findIn K (.ref C) "name" = some none
  xf : XfC K C
theorem errB_ok {K : Frag} {C f : Addr} {init : Value} (h : errB K C f init = true) : ErrF K C f init := by
  unfold errB at h
  simp only [Bool.and_eq_true, decide_eq_true_eq] at h
  obtain ⟨h0, h1, h2, h3, h4, h5, h6, h7, h8, h9, h10, h11, h12, h13⟩ := h
  obtain ⟨hc, hd⟩ := errShape_ok h0
  exact ⟨⟨⟨hc, h1, h2, h4, h5⟩, h3, h6⟩, hd, h7, h8, h9, h10, h11, h12, xfB_ok h13⟩
/-- the def's object -/
structure FunS (prog : Program) (K : Frag) (f D : Addr) (q : Str) (st : Stmt) (fd : FuncData) : Prop where
  SF : SupFn prog K f D q ["self", "place"] fd
  body : fd.body = .stmts (defBody st)
  bind : ∀ s u v, BindsTo s fd ⟨[u, v], []⟩ [("self", u), ("place", v)]
theorem funS_mk {prog : Program} {K : Frag} {f D cda cc : Addr} {q : Str} {st : Stmt} {od odc odl an : Option Addr} {dc pm ct kV occ ocl : Value} {osl osc osv : Array (Option Value)} {vs : Array Value} {tf : Tok}
    (l : K.lookup f = some ⟨.type "function", od, .func (ksFn "__init__" q (defArgs st) (defBody st) (defScope st) .none kV dc pm an (.ref cda) ct cc), osl⟩) (hc : codeIn K (.ref cda) q = true)
    (lc : K.lookup cda = some ⟨occ, odc, .fields vs, osc⟩) (hv : vs[2]? = some (.str prog.main.file tf)) (ll : K.lookup cc = some ⟨ocl, odl, .cell (some (.ref D)), osv⟩)
    (self : ∃ ar, ((defArgs st).posonlyargs ++ (defArgs st).args).head? = some ar ∧ ar.arg = "self") (kind : (defScope st).kind = .function) (noco : (defScope st).isCoroutine = false) (nogen : (defScope st).isGenerator = false)
    (nocell : ∀ x ∈ (defScope st).names, x.2 ≠ .cell) (loc1 : (defScope st).names.lookup ("self" : Str) = some .local) (loc2 : (defScope st).names.lookup ("place" : Str) = some .local) (sup : (defScope st).names.lookup ("super" : Str) = some .globalImplicit)
    (cls : (defScope st).names.lookup ("__class__" : Str) = some .free) (bind : ∀ s u v, BindsTo s (ksFn "__init__" q (defArgs st) (defBody st) (defScope st) .none kV dc pm an (.ref cda) ct cc) ⟨[u, v], []⟩ [("self", u), ("place", v)]) :
    FunS prog K f D q st (ksFn "__init__" q (defArgs st) (defBody st) (defScope st) .none kV dc pm an (.ref cda) ct cc) :=
  ⟨⟨⟨_, _, _, l⟩, by show (K.lookup f).map (·.cls) = _; rw [l]; rfl, rfl, rfl, rfl, hc, ⟨cda, _, _, vs, _, tf, rfl, lc, hv⟩, ⟨cc, _, _, _, rfl, ll⟩, self, kind, noco, nogen, nocell, fun x hx => by
    simp only [List.mem_cons, List.not_mem_nil, or_false] at hx
    rcases hx with rfl | rfl
    · exact loc1
    · exact loc2, sup, cls⟩, rfl, bind⟩
section
variable {prog : Program} {w : World} {K : Frag} {mg : Str → Option Value} {C G f fG : Addr} {q qG nm nmG : Str} {st stG : Stmt} {fd fdG : FuncData} {j jG : Nat}
theorem mke1 (B : ErrF K C f (.builtin "ValueError.__init__")) (S : FunS prog K f C q st fd) (hb : defBody st = initBase nm j (initPos (defBody st))) (hev : SupEv (initPos (defBody st)))
    (hsuper : mg "super" = none) (htop : (prog.main.scope.names.lookup ("super" : Str)).isSome = false) : MkE prog w K mg C nm := by
  obtain ⟨cd, hcd⟩ := B.cd
  exact mke_base S.SF (S.body.trans (by rw [← hb])) hev S.bind B.T B.iC hcd B.mro B.su hsuper htop (by first | rfl | kernel_rfl) B.n1 B.n2
theorem mke2 (BG : ErrF K G fG (.builtin "ValueError.__init__")) (SG : FunS prog K fG G qG stG fdG) (hbG : defBody stG = initBase nmG jG (initPos (defBody stG))) (hevG : SupEv (initPos (defBody stG)))
    (B : ErrF K C f (.ref fG)) (S : FunS prog K f C q st fd) (hb : defBody st = initSub nm j (initPos (defBody st))) (hev : SupEv (initPos (defBody st)))
    (m1 : mroIn K C (.ref G) = some true) (m2 : ks_superIn K C G "__init__" = some (some (.builtin "ValueError.__init__")))
    (hsuper : mg "super" = none) (htop : (prog.main.scope.names.lookup ("super" : Str)).isSome = false) : MkE prog w K mg C nm := by
  obtain ⟨cd, hcd⟩ := B.cd
  obtain ⟨cdG, hcdG⟩ := BG.cd
  exact mke_sub SG.SF (SG.body.trans (by rw [← hbG])) hevG S.SF (S.body.trans (by rw [← hb])) hev SG.bind S.bind B.T B.iC hcdG hcd m1 B.mro m2 B.su hsuper htop (by first | rfl | kernel_rfl) B.n1 B.n2
end
/-! ### the tables of what is over what -/
def subTab (t : List (Str × List Str)) (c h : Str) : Bool := match t with
  | [] => false
  | (x, hs) :: r => if x = c then hs.any fun y => decide (y = h) else subTab r c h
def subB (K : Frag) (tbl : List (Str × Addr)) (sub : Str → Str → Bool) : Bool := tbl.all fun p => tbl.all fun q => decide (exmOne K (.ref p.2) (.ref q.2) = some (sub p.1 q.1))
theorem subB_ok {K : Frag} {mg : Str → Option Value} {tbl : List (Str × Addr)} {sub : Str → Str → Bool} (h : subB K tbl sub = true) (hm : ∀ p ∈ tbl, mg p.1 = some (.ref p.2)) : SubOk K mg (tbl.map (·.1)) sub := by
  intro c hc h' hh C D h1 h2
  obtain ⟨p, hp, rfl⟩ := List.mem_map.mp hc
  obtain ⟨q, hq, rfl⟩ := List.mem_map.mp hh
  unfold subB at h
  have := of_decide_eq_true (List.all_eq_true.mp (List.all_eq_true.mp h p hp) q hq)
  rw [hm p hp] at h1
  rw [hm q hq] at h2
  cases h1
  cases h2
  exact this
theorem xfs_ok {K : Frag} {mg : Str → Option Value} {tbl : List (Str × Addr)} (hm : ∀ p ∈ tbl, mg p.1 = some (.ref p.2)) (hx : ∀ p ∈ tbl, XfC K p.2 ∧ findIn K (.ref p.2) "place" = some none ∧ findIn K (.ref p.2) "name" = some none) : XfOk K mg (tbl.map (·.1)) := by
  intro c hc C h1
  obtain ⟨p, hp, rfl⟩ := List.mem_map.mp hc
  rw [hm p hp] at h1
  cases h1
  exact hx p hp
end MP

/-! MP: membership, dicts. -/
namespace MP
open PySem PySem.Spec PyProof.Rows L2

/-! ### x in y -/
def D.flat1 : D → Bool
  | .non => true
  | .bl _ => true
  | .int _ => true
  | .str _ => true
  | _ => false
/-- is it among them -/
def D.among (x : D) (xs : List D) : Bool := xs.any fun z => PyData.eqv z.toP x.toP
/-- a changeable list, looked at -/
def D.top (S : Sto) : D → D
  | .ref l i => match look S l i with
    | some (.lst xs) => .lst xs
    | _ => .ref l i
  | d => d
def subS (x z : Str) : Bool := if x.cps.size = 1 then decide (x.cps.getD 0 0 ∈ z.cps.toList) else !(Builtin.Str.occurrences z x 0 z.length 1).isEmpty
def inB (x y : D) : Option Bool := match y with
  | .str z => match x with
    | .str w => some (subS w z)
    | _ => none
  | .tup xs => if x.flat1 && xs.all D.flat1 then some (x.among xs) else none
  | .lst xs => if x.flat1 && xs.all D.flat1 then some (x.among xs) else if SeqAt.shaped x.toP && SeqAt.shaped (.list (D.toPs xs)) then some (x.among xs) else none
  | .rol xs => if x.flat1 && xs.all D.flat1 then some (x.among xs) else none
  | _ => none
def gIn : G2 := fun x y S => match inB x (y.top S) with
  | some b => .ok (.bl b) S
  | none => .bad
def gNotIn : G2 := fun x y S => match inB x (y.top S) with
  | some b => .ok (.bl (!b)) S
  | none => .bad
section
variable {K : PySem.W.Frag} {φ : Phi} {H : Hp}
theorem rel_flat {d : D} {v : V} (r : Rel K φ H d v) (h : d.flat1 = true) : flatV v = true := by
  cases r <;> first | rfl | (simp [D.flat1] at h)
theorem rel_eqV {a b : D} {v w : V} (r : Rel K φ H a v) (q : Rel K φ H b w) (h : a.flat1 = true) (h2 : b.flat1 = true) : eqV v w = PyData.eqv a.toP b.toP := by
  cases r <;> first | (simp [D.flat1] at h; done) | skip
  all_goals (cases q <;> first | (simp [D.flat1] at h2; done) | (simp [eqV, D.toP, PyData.eqv]))
theorem rel_in {x : D} {v : V} (r : Rel K φ H x v) (h : x.flat1 = true) : ∀ {ds : List D} {vs : List V}, RelL K φ H ds vs → ds.all D.flat1 = true → vs.all flatV = true ∧ inV v vs = x.among ds
  | _, _, .nil, _ => ⟨rfl, rfl⟩
  | _, _, .cons r1 rs, q => by
    simp only [List.all_cons, Bool.and_eq_true] at q
    obtain ⟨h1, h2⟩ := rel_in r h rs q.2
    refine ⟨by simp [rel_flat r1 q.1, h1], ?_⟩
    have : inV v _ = x.among _ := h2
    unfold inV D.among at this ⊢
    rw [List.any_cons, List.any_cons, this, rel_eqV r1 r q.1 h]
theorem toPs_any (x : D) (ds : List D) : ((D.toPs ds).any fun z => PyData.eqv z x.toP) = x.among ds := by
  induction ds with
  | nil => rfl
  | cons d ds ih =>
    unfold D.among at ih ⊢
    rw [D.toPs, List.any_cons, List.any_cons, ih]
/-- the same values, of what is looked at -/
theorem rel_top {S : Sto} (s : RS K φ H S) {d : D} {v : V} (r : Rel K φ H d v) : (∃ a vs ds, d.top S = .lst ds ∧ v = .ref a ∧ H a = some (.lst vs) ∧ vs.length ≤ sizeLine ∧ RelL K φ H ds vs) ∨ d.top S = d := by
  cases r with
  | ref e =>
    rename_i l i a
    unfold D.top
    cases q : look S l i with
    | none => exact .inr (by simp [q])
    | some o =>
      cases o with
      | lst xs =>
        obtain ⟨vs, h1, h2, h3⟩ := s.obj l i _ a q e
        exact .inl ⟨a, vs, xs, by simp [q], rfl, h1, h2, h3⟩
      | box b xs => exact .inr (by simp [q])
      | dead => exact .inr (by simp [q])
  | lst z f w rr => exact .inl ⟨_, _, _, rfl, rfl, f, z, rr⟩
  | _ => exact .inr rfl
end
section
variable {X : Cx}
def rInAll (K : PySem.W.Frag) (neg : Bool) : R2 := fun x y H Q =>
  ((∃ i j, x = .str i ∧ y = .str j ∧ Q (.bl (neg ^^ (!(Builtin.Str.occurrences j i 0 j.length 1).isEmpty))) H) ∨ (∃ (c : Nat) (z : Str), x = .str ⟨#[c]⟩ ∧ y = .str z ∧ Q (.bl (neg ^^ decide (c ∈ z.cps.toList))) H)) ∨
  (∃ p xs, y = .ref p ∧ (SqL K H p xs ∨ SqT K H p xs) ∧ flatV x = true ∧ xs.all flatV = true ∧ Q (.bl (neg ^^ inV x xs)) H) ∨
  (∃ d ds, Dp K H x d ∧ Dp K H y (.list ds) ∧ SeqAt.shaped d = true ∧ SeqAt.shaped (.list ds) = true ∧ Q (.bl (neg ^^ (ds.any fun z => PyData.eqv z d))) H)
theorem op_inAll (hu : X.A.units + 65 < cLine) : OpR X (compareOp .In) (rInAll X.K false) := by
  intro pins s σ H x y v u Q I rx ry h
  rcases h with (⟨i, j, e1, e2, h⟩ | ⟨c, z, e1, e2, h⟩) | ⟨p, xs, e1, h1, h2, h3, h⟩ | ⟨d, ds, h1, h2, h3, h4, h⟩
  · exact op_in_str pins s σ H x y v u Q I rx ry ⟨i, j, e1, e2, by simpa using h⟩
  · exact op_in_sign pins s σ H x y v u Q I rx ry ⟨c, z, e1, e2, by simpa using h⟩
  · exact op_in_seq pins s σ H x y v u Q I rx ry ⟨p, xs, e1, h1, h2, h3, by simpa using h⟩
  · exact op_inD hu pins s σ H x y v u Q I rx ry ⟨d, ds, h1, h2, h3, h4, by simpa using h⟩
theorem op_notInAll (hu : X.A.units + 65 < cLine) : OpR X (compareOp .NotIn) (rInAll X.K true) := by
  intro pins s σ H x y v u Q I rx ry h
  rcases h with (⟨i, j, e1, e2, h⟩ | ⟨c, z, e1, e2, h⟩) | ⟨p, xs, e1, h1, h2, h3, h⟩ | ⟨d, ds, h1, h2, h3, h4, h⟩
  · exact op_notin_str pins s σ H x y v u Q I rx ry ⟨i, j, e1, e2, by simpa using h⟩
  · exact op_notIn_sign pins s σ H x y v u Q I rx ry ⟨c, z, e1, e2, by simpa using h⟩
  · exact op_notIn_seq pins s σ H x y v u Q I rx ry ⟨p, xs, e1, h1, h2, h3, by simpa using h⟩
  · exact op_notInD hu pins s σ H x y v u Q I rx ry ⟨d, ds, h1, h2, h3, h4, by simpa using h⟩
theorem inAll_of {φ : Phi} {H : Hp} {S : Sto} {x y : D} {vx vy : V} {Q : VK} {neg b : Bool} (s : RS X.K φ H S) (rx : Rel X.K φ H x vx) (ry : Rel X.K φ H y vy) (hb : inB x (y.top S) = some b) (z : Q (.bl (neg ^^ b)) H) : rInAll X.K neg vx vy H Q := by
  have seq : ∀ {ds : List D} {vs : List V} {a : Addr}, vy = .ref a → (SqL X.K H a vs ∨ SqT X.K H a vs) → RelL X.K φ H ds vs → (x.flat1 && ds.all D.flat1) = true → b = x.among ds → rInAll X.K neg vx vy H Q := by
    intro ds vs a e h r hf hb
    rw [Bool.and_eq_true] at hf
    obtain ⟨h1, h2⟩ := rel_in rx hf.1 r hf.2
    exact .inr (.inl ⟨a, vs, e, h, rel_flat rx hf.1, h1, by rw [h2, ← hb]; exact z⟩)
  have lst : ∀ {ds : List D} {vs : List V} {a : Addr}, y.top S = .lst ds → vy = .ref a → H a = some (.lst vs) → RelL X.K φ H ds vs → rInAll X.K neg vx vy H Q := by
    intro ds vs a ht e h r
    rw [ht] at hb
    unfold inB at hb
    by_cases hf : (x.flat1 && ds.all D.flat1) = true
    · simp only [hf, if_true, Option.some.injEq] at hb
      exact seq e (.inl (SqL.of h)) r hf hb.symm
    · simp only [hf, Bool.false_eq_true, if_false] at hb
      by_cases hs : (SeqAt.shaped x.toP && SeqAt.shaped (.list (D.toPs ds))) = true
      · simp only [hs, if_true, Option.some.injEq] at hb
        rw [Bool.and_eq_true] at hs
        have c2 : PyData.canLayAll0 (D.toPs ds) = true := by
          have := SeqAt.canLay_of_shaped hs.2
          simpa [PyData.canLay0] using this
        refine .inr (.inr ⟨_, _, dp_of rx (SeqAt.canLay_of_shaped hs.1), by rw [e]; exact .lst (SqL.of h) (dps_of r c2), hs.1, hs.2, ?_⟩)
        rw [toPs_any, hb]
        exact z
      · simp only [hs, Bool.false_eq_true, if_false] at hb
        cases hb
  rcases rel_top s ry with ⟨a, vs, ds, e1, e2, e3, e4, e5⟩ | e
  · exact lst e1 e2 e3 e5
  · rw [e] at hb
    cases ry with
    | str w =>
      unfold inB at hb
      cases rx <;> try (simp at hb; done)
      rename_i u
      simp only [Option.some.injEq] at hb
      unfold subS at hb
      by_cases h1 : u.cps.size = 1
      · simp only [h1, if_true] at hb
        obtain ⟨⟨l⟩⟩ := u
        match l, h1 with
        | [c], _ => exact .inl (.inr ⟨c, w, rfl, rfl, by simp at hb; rw [← hb] at z; simpa using z⟩)
      · simp only [h1, if_false] at hb
        exact .inl (.inl ⟨_, _, rfl, rfl, by rw [hb]; exact z⟩)
    | @tup a vs ds zz f rr =>
      unfold inB at hb
      by_cases hf : (x.flat1 && ds.all D.flat1) = true
      · simp only [hf, if_true, Option.some.injEq] at hb
        exact seq rfl (.inr f.sq) rr hf hb.symm
      · simp only [hf, Bool.false_eq_true, if_false] at hb
        cases hb
    | lst zz f w rr => exact lst e rfl f rr
    | @rol a vs ds zz f rr =>
      unfold inB at hb
      by_cases hf : (x.flat1 && ds.all D.flat1) = true
      · simp only [hf, if_true, Option.some.injEq] at hb
        exact seq rfl (.inl f.sq) rr hf hb.symm
      · simp only [hf, Bool.false_eq_true, if_false] at hb
        cases hb
    | _ => simp [inB] at hb
theorem os_in (hu : X.A.units + 65 < cLine) : OS X (compareOp .In) gIn := by
  refine ⟨_, op_inAll hu, fun W σ φ H S x y vx vy Q s rx ry z => ?_⟩
  unfold gIn at z
  cases q : inB x (y.top S) with
  | none => simp only [q] at z; exact z.elim
  | some b =>
    simp only [q] at z
    exact inAll_of s rx ry q (bl_to s z (by simp))
theorem os_notIn (hu : X.A.units + 65 < cLine) : OS X (compareOp .NotIn) gNotIn := by
  refine ⟨_, op_notInAll hu, fun W σ φ H S x y vx vy Q s rx ry z => ?_⟩
  unfold gNotIn at z
  cases q : inB x (y.top S) with
  | none => simp only [q] at z; exact z.elim
  | some b =>
    simp only [q] at z
    exact inAll_of s rx ry q (bl_to s z (by simp))
end

/-! ### dicts of ints and texts -/
def D.key : D → Option Key
  | .int i => some (.inl i)
  | .str x => some (.inr x)
  | _ => none
def getA {α : Type} : List Key → List α → Key → Option α
  | k' :: ks, a :: as, k => if k' = k then some a else getA ks as k
  | _, _, _ => none
def hasK (ks : List Key) (k : Key) : Bool := ks.any fun x => decide (x = k)
def putKs (ks : List Key) (k : Key) : List Key := if hasK ks k then ks else ks ++ [k]
def putA {α : Type} (ks : List Key) (as : List α) (k : Key) (a : α) : List α := if hasK ks k then (ks.zip as).map (fun p => if p.1 = k then a else p.2) else as ++ [a]
def D.dict (S : Sto) : D → Option (List Key × List D)
  | .box (.dK ks) ds => some (ks, ds)
  | .ref l i => match look S l i with
    | some (.box (.dK ks) ds) => some (ks, ds)
    | _ => none
  | _ => none
section
variable {K : PySem.W.Frag} {φ : Phi} {H : Hp}
theorem rel_key {d : D} {v : V} {k : Key} (r : Rel K φ H d v) (h : d.key = some k) : v = kV k := by
  cases r <;> first | (simp [D.key] at h; done) | (simp only [D.key, Option.some.injEq] at h; subst h; rfl)
theorem valV_zip {k : Key} : ∀ {ks : List Key} {vs : List V}, ks.length = vs.length → valV (ks.zip vs) k = getA ks vs k
  | [], [], _ => rfl
  | k' :: ks, v :: vs, h => by
    rw [List.zip_cons_cons, getA]
    by_cases e : k' = k
    · rw [valV_pos e, if_pos e]
    · rw [valV_neg e, if_neg e]
      exact valV_zip (by simpa using h)
theorem getA_some {k : Key} {d : D} : ∀ {ks : List Key} {ds : List D} {vs : List V}, RelL K φ H ds vs → getA ks ds k = some d → ∃ v, getA ks vs k = some v ∧ Rel K φ H d v
  | [], _, _, _, h => by cases h
  | k' :: ks, _, _, .nil, h => by cases h
  | k' :: ks, _, _, .cons r rs, h => by
    rw [getA] at h ⊢
    by_cases e : k' = k
    · rw [if_pos e] at h ⊢
      cases h
      exact ⟨_, rfl, r⟩
    · rw [if_neg e] at h ⊢
      exact getA_some rs h
theorem getA_none {k : Key} : ∀ {ks : List Key} {ds : List D} {vs : List V}, RelL K φ H ds vs → getA ks ds k = none → getA ks vs k = none
  | [], _, _, _, h => rfl
  | k' :: ks, _, _, .nil, h => rfl
  | k' :: ks, _, _, .cons r rs, h => by
    rw [getA] at h ⊢
    by_cases e : k' = k
    · rw [if_pos e] at h; cases h
    · rw [if_neg e] at h ⊢
      exact getA_none rs h
theorem getA_rel {k : Key} {ks : List Key} {ds : List D} {vs : List V} (r : RelL K φ H ds vs) : (getA ks ds k).isSome = (getA ks vs k).isSome := by
  cases q : getA ks ds k with
  | none => rw [getA_none r q]; rfl
  | some d =>
    obtain ⟨v, h, _⟩ := getA_some r q
    rw [h]; rfl
theorem zip_map_snd {α β γ : Type} (f : α × β → γ) : ∀ {ks : List α} {vs : List β}, ks.length = vs.length → ks.zip ((ks.zip vs).map f) = (ks.zip vs).map fun p => (p.1, f p)
  | [], [], _ => rfl
  | k :: ks, v :: vs, h => by
    simp only [List.zip_cons_cons, List.map_cons]
    rw [zip_map_snd f (by simpa using h)]
theorem zip_any {k : Key} : ∀ {ks : List Key} {vs : List V}, ks.length = vs.length → ((ks.zip vs).any fun kv => decide (kv.1 = k)) = hasK ks k
  | [], [], _ => rfl
  | k' :: ks, v :: vs, h => by
    rw [List.zip_cons_cons, List.any_cons, zip_any (by simpa using h)]
    rfl
theorem putK_zip {k : Key} {v : V} {ks : List Key} {vs : List V} (h : ks.length = vs.length) : putK (ks.zip vs) k v = (putKs ks k).zip (putA ks vs k v) := by
  unfold putK putKs putA
  rw [zip_any h]
  by_cases e : hasK ks k = true
  · simp only [e, if_true]
    rw [zip_map_snd _ h]
    refine List.map_congr_left fun p _ => ?_
    obtain ⟨a, b⟩ := p
    by_cases q : a = k
    · simp [q]
    · simp [q]
  · simp only [e, Bool.false_eq_true, if_false]
    rw [List.zip_append h]
    rfl
theorem putA_len {α : Type} {k : Key} {a : α} {ks : List Key} {as : List α} (h : ks.length = as.length) : (putKs ks k).length = (putA ks as k a).length := by
  unfold putKs putA
  by_cases e : hasK ks k = true
  · simp [e, h]
  · simp [e, h]
theorem putKs_len (ks : List Key) (k : Key) : (putKs ks k).length ≤ ks.length + 1 := by
  unfold putKs
  by_cases e : hasK ks k = true
  · simp [e]
  · simp [e]
theorem relL_mapzip {k : Key} {d : D} {v : V} (q : Rel K φ H d v) : ∀ {ks : List Key} {ds : List D} {vs : List V}, RelL K φ H ds vs → RelL K φ H ((ks.zip ds).map fun p => if p.1 = k then d else p.2) ((ks.zip vs).map fun p => if p.1 = k then v else p.2)
  | [], _, _, _ => .nil
  | _ :: _, _, _, .nil => .nil
  | k' :: ks, _, _, .cons r rs => by
    simp only [List.zip_cons_cons, List.map_cons]
    refine .cons ?_ (relL_mapzip q rs)
    by_cases e : k' = k
    · simp only [e, if_true]; exact q
    · simp only [e, if_false]; exact r
theorem putA_rel {k : Key} {d : D} {v : V} {ks : List Key} {ds : List D} {vs : List V} (r : RelL K φ H ds vs) (q : Rel K φ H d v) : RelL K φ H (putA ks ds k d) (putA ks vs k v) := by
  unfold putA
  by_cases e : hasK ks k = true
  · simp only [e, if_true]; exact relL_mapzip q r
  · simp only [e, Bool.false_eq_true, if_false]; exact r.append (.cons q .nil)
/-- what a dict is in the heap -/
theorem rel_dict {S : Sto} (s : RS K φ H S) {d : D} {v : V} {ks : List Key} {ds : List D} (r : Rel K φ H d v) (h : d.dict S = some (ks, ds)) : ∃ a vs, v = .ref a ∧ H a = some (.dK (ks.zip vs)) ∧ ks.length = vs.length ∧ RelL K φ H ds vs := by
  cases r <;> try (simp [D.dict] at h; done)
  · rename_i a vs ds' b at_ n w rr
    cases b <;> simp [D.dict] at h
    obtain ⟨rfl, rfl⟩ := h
    exact ⟨a, vs, rfl, at_.2, at_.1, rr⟩
  · rename_i l i a e
    unfold D.dict at h
    cases q : look S l i with
    | none => simp [q] at h
    | some o =>
      cases o with
      | lst xs => simp [q] at h
      | dead => simp [q] at h
      | box b xs =>
        cases b <;> simp [q] at h
        obtain ⟨rfl, rfl⟩ := h
        obtain ⟨vs, h1, h2⟩ := s.obj l i _ a q e
        exact ⟨a, vs, rfl, h1.2, h1.1, h2⟩
end

/-! ### one of two readings -/
theorem _root_.L2.PE.or {X : Cx} {e : Expr} {t u : TE} (h : PE X e t) (k : PE X e u) : PE X e (fun σ H Q => t σ H Q ∨ u σ H Q) := ⟨fun pins s σ H Q I z => z.elim (h.run pins s σ H Q I) (k.run pins s σ H Q I)⟩
theorem _root_.L2.PT.or {X : Cx} {e : Expr} {t u : TT} (h : PT X e t) (k : PT X e u) : PT X e (fun σ H Q => t σ H Q ∨ u σ H Q) := ⟨fun pins s σ H Q I z => z.elim (h.run pins s σ H Q I) (k.run pins s σ H Q I)⟩
theorem _root_.L2.PS.or {X : Cx} {e : Stmt} {t u : TS} (h : PS X e t) (k : PS X e u) : PS X e (fun D σ H => t D σ H ∨ u D σ H) := ⟨fun pins s σ H D I z => z.elim (h.run pins s σ H D I) (k.run pins s σ H D I)⟩
section
variable {X : Cx} {W : WX} {e : Expr} {st : Stmt}
theorem ME.or {c1 c2 c : C} (h1 : ME X W e c1) (h2 : ME X W e c2) (k : ∀ ρ S, c ρ S = c1 ρ S ∨ c ρ S = c2 ρ S) : ME X W e c := ⟨(h1.pe.or h2.pe).imp fun σ H Q h => by
  obtain ⟨ρ, φ, S, he, hs, h⟩ := h
  rcases k ρ S with q | q
  · exact .inl ⟨ρ, φ, S, he, hs, by rw [← q]; exact h⟩
  · exact .inr ⟨ρ, φ, S, he, hs, by rw [← q]; exact h⟩⟩
theorem MT.or {c1 c2 c : CT} (h1 : MT X W e c1) (h2 : MT X W e c2) (k : ∀ ρ S, c ρ S = c1 ρ S ∨ c ρ S = c2 ρ S) : MT X W e c := ⟨(h1.pt.or h2.pt).imp fun σ H Q h => by
  obtain ⟨ρ, φ, S, he, hs, h⟩ := h
  rcases k ρ S with q | q
  · exact .inl ⟨ρ, φ, S, he, hs, by rw [← q]; exact h⟩
  · exact .inr ⟨ρ, φ, S, he, hs, by rw [← q]; exact h⟩⟩
theorem MS.or {c1 c2 c : CS} (h1 : MS X W st c1) (h2 : MS X W st c2) (k : ∀ ρ S, c ρ S = c1 ρ S ∨ c ρ S = c2 ρ S) : MS X W st c := ⟨(h1.ps.or h2.ps).imp fun D σ H h => by
  obtain ⟨ρ, φ, S, he, hs, h⟩ := h
  rcases k ρ S with q | q
  · exact .inl ⟨ρ, φ, S, he, hs, by rw [← q]; exact h⟩
  · exact .inr ⟨ρ, φ, S, he, hs, by rw [← q]; exact h⟩⟩
end
theorem cB_or {g g1 g2 : G2} {a b : C} (h : ∀ x y S, g x y S = g1 x y S ∨ g x y S = g2 x y S) (ρ : Ro) (S : Sto) : cB g a b ρ S = cB g1 a b ρ S ∨ cB g a b ρ S = cB g2 a b ρ S := by
  unfold cB
  cases a ρ S with
  | err x S1 => exact .inl rfl
  | bad => exact .inl rfl
  | ok d S1 =>
    simp only [R.bind_ok]
    cases b ρ S1 with
    | err x S1 => exact .inl rfl
    | bad => exact .inl rfl
    | ok e S2 =>
      simp only [R.bind_ok]
      exact h d e S2

/-! ### d[k], k in d -/
def gDget : G2 := fun x k S => match x.dict S with
  | some (ks, ds) => match k.key with
    | some κ => match getA ks ds κ with
      | some d => .ok d S
      | none => .bad
    | none => .bad
  | none => .bad
def gItem : G2 := fun x k S => match x.dict S with
  | some _ => gDget x k S
  | none => gIx x k S
def gDin : G2 := fun k x S => match x.dict S with
  | some (ks, ds) => match k.key with
    | some κ => .ok (.bl (getA ks ds κ).isSome) S
    | none => .bad
  | none => .bad
def gDnotIn : G2 := fun k x S => match x.dict S with
  | some (ks, ds) => match k.key with
    | some κ => .ok (.bl (!(getA ks ds κ).isSome)) S
    | none => .bad
  | none => .bad
def gMem : G2 := fun k x S => match x.dict S with
  | some _ => gDin k x S
  | none => gIn k x S
def gNotMem : G2 := fun k x S => match x.dict S with
  | some _ => gDnotIn k x S
  | none => gNotIn k x S
section
variable {X : Cx} {W : WX} {a b : Expr} {ca cb : C} {pos : Pos}
theorem me_dget (hu : X.A.units + 64 < cLine) (ha : ME X W a ca) (hb : ME X W b cb) (hs : NoSl b := by exact fun _ _ => rfl) : ME X W (.Subscript a b pos) (cB gDget ca cb) := by
  refine ⟨(pe_dget (by omega) ha.pe hb.pe hs).imp fun σ H Q h => ?_⟩
  obtain ⟨ρ, φ, S, he, hs, h⟩ := h
  refine ⟨ρ, φ, S, he, hs, h.step fun x S1 φ1 H1 v q l s rx h => ⟨ρ, φ1, S1, he.mono l, s, h.step fun k S2 φ2 H2 vk q2 l2 s2 rk h => ?_⟩⟩
  unfold gDget at h
  cases q3 : x.dict S2 with
  | none => simp only [q3] at h; exact h.elim
  | some p =>
    obtain ⟨ks, ds⟩ := p
    simp only [q3] at h
    cases q4 : k.key with
    | none => simp only [q4] at h; exact h.elim
    | some κ =>
      simp only [q4] at h
      cases q5 : getA ks ds κ with
      | none => simp only [q5] at h; exact h.elim
      | some d =>
        simp only [q5] at h
        obtain ⟨a, vs, e1, e2, e3, e4⟩ := rel_dict s2 (rx.mono l2) q3
        obtain ⟨w, h1, h2⟩ := getA_some e4 q5
        refine ⟨a, w, e1, ?_, h φ2 H2 w (Le.refl _ _) s2 h2⟩
        rw [rel_key rk q4]
        have := DGet.k (k := κ) e2
        rw [valV_zip e3, h1] at this
        exact this
theorem me_item (hu : X.A.units + 64 < cLine) (ha : ME X W a ca) (hb : ME X W b cb) (hs : PlainIx b := by exact fun _ _ => rfl) (hs2 : NoSl b := by exact fun _ _ => rfl) : ME X W (.Subscript a b pos) (cB gItem ca cb) :=
  .or (me_ix ha hb hs) (me_dget hu ha hb hs2) fun ρ S => cB_or (fun x y S => by
    unfold gItem
    cases x.dict S with
    | none => exact .inl rfl
    | some p => exact .inr rfl) ρ S
theorem din_imp {neg : Bool} {σ : L2.St} {H : Hp} {Q : VK} (h : rdE X W (cB (fun k x S => match x.dict S with
  | some (ks, ds) => match k.key with
    | some κ => .ok (.bl (neg ^^ (getA ks ds κ).isSome)) S
    | none => .bad
  | none => .bad) ca cb) σ H Q) : rdE X W ca σ H fun y H1 => rdE X W cb σ H1 fun x H2 => ∃ a o, x = .ref a ∧ DGet H2 a y o ∧ Q (.bl (neg ^^ o.isSome)) H2 := by
  obtain ⟨ρ, φ, S, he, hs, h⟩ := h
  refine ⟨ρ, φ, S, he, hs, h.step fun k S1 φ1 H1 vk q l s rk h => ⟨ρ, φ1, S1, he.mono l, s, h.step fun x S2 φ2 H2 vx q2 l2 s2 rx h => ?_⟩⟩
  cases q3 : x.dict S2 with
  | none => simp only [q3] at h; exact h.elim
  | some p =>
    obtain ⟨ks, ds⟩ := p
    simp only [q3] at h
    cases q4 : k.key with
    | none => simp only [q4] at h; exact h.elim
    | some κ =>
      simp only [q4] at h
      obtain ⟨a, vs, e1, e2, e3, e4⟩ := rel_dict s2 rx q3
      refine ⟨a, valV (ks.zip vs) κ, e1, ?_, ?_⟩
      · rw [rel_key rk q4]
        exact DGet.k (k := κ) e2
      · rw [valV_zip e3, ← getA_rel e4]
        exact h φ2 H2 _ (Le.refl _ _) s2 (.bl _)
theorem gDin_eq : gDin = fun k x S => match x.dict S with
  | some (ks, ds) => match k.key with
    | some κ => .ok (.bl (false ^^ (getA ks ds κ).isSome)) S
    | none => .bad
  | none => .bad := by
  funext k x S
  simp [gDin]
theorem gDnotIn_eq : gDnotIn = fun k x S => match x.dict S with
  | some (ks, ds) => match k.key with
    | some κ => .ok (.bl (true ^^ (getA ks ds κ).isSome)) S
    | none => .bad
  | none => .bad := by
  funext k x S
  simp [gDnotIn]
theorem pc_in (hu : X.A.units + 64 < cLine) (ha : ME X W a ca) (hb : ME X W b cb) : PC X .In a b (rdE X W (cB gDin ca cb)) := ⟨fun pins s σ H Q I h => (pc_din (by omega) ha.pe hb.pe).run pins s σ H Q I (by
  rw [gDin_eq] at h
  have := din_imp h
  simpa [tDIn] using this)⟩
theorem pc_notIn (hu : X.A.units + 64 < cLine) (ha : ME X W a ca) (hb : ME X W b cb) : PC X .NotIn a b (rdE X W (cB gDnotIn ca cb)) := ⟨fun pins s σ H Q I h => (pc_dnotin (by omega) ha.pe hb.pe).run pins s σ H Q I (by
  rw [gDnotIn_eq] at h
  have := din_imp h
  simpa [tDNotIn] using this)⟩
theorem mem_or (x y : D) (S : Sto) : gMem x y S = gIn x y S ∨ gMem x y S = gDin x y S := by
  unfold gMem
  cases y.dict S with
  | none => exact .inl rfl
  | some p => exact .inr rfl
theorem notMem_or (x y : D) (S : Sto) : gNotMem x y S = gNotIn x y S ∨ gNotMem x y S = gDnotIn x y S := by
  unfold gNotMem
  cases y.dict S with
  | none => exact .inl rfl
  | some p => exact .inr rfl
theorem me_mem (hu : X.A.units + 65 < cLine) (ha : ME X W a ca) (hb : ME X W b cb) (hm : behindInMarks .In b = false) : ME X W (.Compare a [.In] [b] pos) (cB gMem ca cb) :=
  .or (me_cmp (os_in hu) ha hb hm) ⟨pe_cmp (pc_in (by omega) ha hb) hm⟩ fun ρ S => cB_or mem_or ρ S
theorem me_notMem (hu : X.A.units + 65 < cLine) (ha : ME X W a ca) (hb : ME X W b cb) (hm : behindInMarks .NotIn b = false) : ME X W (.Compare a [.NotIn] [b] pos) (cB gNotMem ca cb) :=
  .or (me_cmp (os_notIn hu) ha hb hm) ⟨pe_cmp (pc_notIn (by omega) ha hb) hm⟩ fun ρ S => cB_or notMem_or ρ S
theorem cTB_or {g g1 g2 : G2} {a b : C} (h : ∀ x y S, g x y S = g1 x y S ∨ g x y S = g2 x y S) (ρ : Ro) (S : Sto) : cTB (cB g a b) ρ S = cTB (cB g1 a b) ρ S ∨ cTB (cB g a b) ρ S = cTB (cB g2 a b) ρ S := by
  unfold cTB
  rcases cB_or (a := a) (b := b) h ρ S with q | q
  · exact .inl (by rw [q])
  · exact .inr (by rw [q])
theorem rdB_of {c : C} {σ : L2.St} {H : Hp} {Q : Bool → Hp → Prop} (h : rdT X W (cTB c) σ H Q) : tB (rdE X W c) σ H Q := by
  obtain ⟨ρ, φ, S, he, hs, h⟩ := h
  refine ⟨ρ, φ, S, he, hs, h.step fun d S1 φ1 H1 v q l s r z => ?_⟩
  cases r <;> try exact z.elim
  rename_i b
  exact ⟨b, rfl, z φ1 H1 b (Le.refl _ _) s rfl⟩
theorem mt_mem (hu : X.A.units + 65 < cLine) (ha : ME X W a ca) (hb : ME X W b cb) (hm : behindInMarks .In b = false) : MT X W (.Compare a [.In] [b] pos) (cTB (cB gMem ca cb)) :=
  .or (mt_cmp (os_in hu) ha hb hm) ⟨(pt_cmp (pc_in (by omega) ha hb) hm).imp fun σ H Q h => rdB_of h⟩ fun ρ S => cTB_or mem_or ρ S
theorem mt_notMem (hu : X.A.units + 65 < cLine) (ha : ME X W a ca) (hb : ME X W b cb) (hm : behindInMarks .NotIn b = false) : MT X W (.Compare a [.NotIn] [b] pos) (cTB (cB gNotMem ca cb)) :=
  .or (mt_cmp (os_notIn hu) ha hb hm) ⟨(pt_cmp (pc_notIn (by omega) ha hb) hm).imp fun σ H Q h => rdB_of h⟩ fun ρ S => cTB_or notMem_or ρ S
end

/-! ### d[k] = v -/
def cSetD (o i e : C) : CS := fun ρ S => .of ρ (e ρ S) fun d S => .of ρ (o ρ S) fun x S => .of ρ (i ρ S) fun k S => match x with
  | .ref l n => match look S l n with
    | some (.box (.dK ks) ds) => match k.key with
      | some κ => if ks.length < 16000000 ∧ D.les l (putA ks ds κ d) = true then .nx ρ (put S l n (.box (.dK (putKs ks κ)) (putA ks ds κ d))) else .bad
      | none => .bad
    | _ => .bad
  | _ => .bad
/-- o[i] = e, of a list or of a dict -/
def cSetA (o i e : C) : CS := fun ρ S => .of ρ (e ρ S) fun d S => .of ρ (o ρ S) fun x S => .of ρ (i ρ S) fun k S => match x with
  | .ref l n => match look S l n with
    | some (.lst xs) => match k with
      | .int j => match ixN xs.length j with
        | some m => if D.les l (xs.set m d) = true then .nx ρ (put S l n (.lst (xs.set m d))) else .bad
        | none => .bad
      | _ => .bad
    | some (.box (.dK ks) ds) => match k.key with
      | some κ => if ks.length < 16000000 ∧ D.les l (putA ks ds κ d) = true then .nx ρ (put S l n (.box (.dK (putKs ks κ)) (putA ks ds κ d))) else .bad
      | none => .bad
    | _ => .bad
  | _ => .bad
theorem dput_ro {K : PySem.W.Frag} {φ : Phi} {H : Hp} {S : Sto} {l n : Nat} {p : Addr} {ks : List Key} {ds : List D} {vs : List V} {κ : Key} {d : D} {v : V} (s : RS K φ H S) (e : look φ.r l n = some p) (q : look S l n = some (.box (.dK ks) ds))
    (h3 : ks.length = vs.length) (h4 : RelL K φ H ds vs) (rd : Rel K φ H d v) (hle : D.les l (putA ks ds κ d) = true) :
    RS K φ (upd H p (.dK (putK (ks.zip vs) κ v))) (put S l n (.box (.dK (putKs ks κ)) (putA ks ds κ d))) := by
  refine s.put e q hle ⟨putA ks vs κ v, ⟨putA_len h3, ?_⟩, RelL.mono (Le.put s e) (putA_rel h4 rd)⟩
  rw [upd_same, putK_zip h3]
section
variable {X : Cx} {W : WX} {pos pos' : Pos} {o i e : Expr} {co ci ce : C}
theorem ms_setD (hu : X.A.units + 64 < cLine) (he : ME X W e ce) (ho : ME X W o co) (hi : ME X W i ci) (hs : swapsWith e (some (.Subscript o i pos')) pos.line X.env = pure false := by rfl) : MS X W (.Assign [.Subscript o i pos'] e pos) (cSetD co ci ce) := by
  refine ⟨(ps_dput (by omega) ho.pe hi.pe he.pe hs).imp fun D' σ H h => ?_⟩
  obtain ⟨ρ, φ, S, hE, hs, h⟩ := h
  refine ⟨ρ, φ, S, hE, hs, OkS.from hE h fun d S1 φ1 H1 v q l1 s1 rd0 za => ⟨ρ, φ1, S1, hE.mono l1, s1, OkS.from (hE.mono l1) za fun x S2 φ2 H2 vx q2 l2 s2 rx0 zb => ⟨ρ, φ2, S2, (hE.mono l1).mono l2, s2, OkS.from ((hE.mono l1).mono l2) zb fun k S3 φ3 H3 vk q3 l3 s3 rk z => ?_⟩⟩⟩
  have rx := rx0.mono l3
  have rd := (rd0.mono l2).mono l3
  clear rx0 rd0 za zb q q2 q3 h
  cases rx <;> try exact z.elim
  rename_i l n p e
  cases q4 : look S3 l n with
  | none => simp only [q4] at z; exact z.elim
  | some ob =>
    cases ob with
    | dead => simp only [q4] at z; exact z.elim
    | lst ds => simp only [q4] at z; exact z.elim
    | box b ds =>
      cases b with
      | dT ks => simp only [q4] at z; exact z.elim
      | ins c fs => simp only [q4] at z; exact z.elim
      | dK ks =>
        simp only [q4] at z
        obtain ⟨vs, ⟨h3, hv⟩, r⟩ := s3.obj l n _ p q4 e
        cases q5 : k.key with
        | none => simp only [q5] at z; exact z.elim
        | some κ =>
          simp only [q5] at z
          by_cases hle : ks.length < 16000000 ∧ D.les l (putA ks ds κ d) = true
          · simp only [hle, and_self, if_true] at z
            refine ⟨p, _, rfl, .inl ⟨ks.zip vs, κ, hv, rel_key rk q5, ?_, rfl⟩, z φ3 _ σ (Le.put s3 e) (dput_ro s3 e q4 h3 r rd hle.2) ((((hE.mono l1).mono l2).mono l3).mono (Le.put s3 e))⟩
            have := hle.1
            rw [List.length_zip, ← h3, sizeLine_eq]
            omega
          · simp only [hle, if_false] at z
            exact z.elim
theorem setA_or (ρ : Ro) (S : Sto) : cSetA co ci ce ρ S = cSetI co ci ce ρ S ∨ cSetA co ci ce ρ S = cSetD co ci ce ρ S := by
  unfold cSetA cSetI cSetD
  cases ce ρ S with
  | err x S1 => exact .inl rfl
  | bad => exact .inl rfl
  | ok d S1 =>
    simp only [RSt.of_ok]
    cases co ρ S1 with
    | err x S1 => exact .inl rfl
    | bad => exact .inl rfl
    | ok x S2 =>
      simp only [RSt.of_ok]
      cases ci ρ S2 with
      | err x S1 => exact .inl rfl
      | bad => exact .inl rfl
      | ok k S3 =>
        simp only [RSt.of_ok]
        cases x <;> try exact .inr rfl
        rename_i l n
        cases q : look S3 l n with
        | none => exact .inr (by simp [q])
        | some ob =>
          cases ob with
          | dead => exact .inr (by simp [q])
          | box b ds =>
            right
            simp only [q]
            cases b <;> rfl
          | lst xs =>
            left
            cases k <;> simp only [q] <;> rfl
theorem ms_setA (hu : X.A.units + 64 < cLine) (he : ME X W e ce) (ho : ME X W o co) (hi : ME X W i ci)
    (ha : ∀ v, assign (.Subscript o i pos') X.env v = (do
      let ov ← holding [v] (eval o X.env)
      let iv ← holding [v, ov] (eval i X.env)
      standAt pos'
      holding [v, ov, iv] (setItem ov iv v)
      release [v, ov, iv] []) := by intro _; rfl)
    (hs : swapsWithSole [.Subscript o i pos'] e pos.line X.env = pure false := by rfl) (hw : swappedStores [.Subscript o i pos'] e X.env = pure none := by rfl)
    (h1 : (assignEach [.Subscript o i pos'] X.env).map (·.2) = [assign (.Subscript o i pos') X.env] := by rfl) (hs2 : swapsWith e (some (.Subscript o i pos')) pos.line X.env = pure false := by rfl) : MS X W (.Assign [.Subscript o i pos'] e pos) (cSetA co ci ce) :=
  .or (ms_setI he ho hi ha hs hw h1) (ms_setD hu he ho hi hs2) setA_or
end

/-! ### d.get(k), d.get(k, x) -/
def cGet1 (o k : C) : C := fun ρ S => (o ρ S).bind fun x S => match x.dict S with
  | some _ => (k ρ S).bind fun y S => match x.dict S with
    | some (ks, ds) => match y.key with
      | some κ => .ok ((getA ks ds κ).getD .non) S
      | none => .bad
    | none => .bad
  | none => .bad
def cGet2 (o k e : C) : C := fun ρ S => (o ρ S).bind fun x S => match x.dict S with
  | some _ => (k ρ S).bind fun y S => (e ρ S).bind fun z S => match x.dict S with
    | some (ks, ds) => match y.key with
      | some κ => .ok ((getA ks ds κ).getD z) S
      | none => .bad
    | none => .bad
  | none => .bad
theorem getA_getD {K : PySem.W.Frag} {φ : Phi} {H : Hp} {k : Key} {ks : List Key} {ds : List D} {vs : List V} {d : D} {v : V} (r : RelL K φ H ds vs) (q : Rel K φ H d v) : Rel K φ H ((getA ks ds k).getD d) ((getA ks vs k).getD v) := by
  cases h : getA ks ds k with
  | none => rw [getA_none r h]; exact q
  | some d' =>
    obtain ⟨w, h1, h2⟩ := getA_some r h
    rw [h1]; exact h2
section
variable {X : Cx} {W : WX} {o e f : Expr} {co ce cf : C} {apos cpos : Pos}
theorem isD_of {φ : Phi} {H : Hp} {S : Sto} {x : D} {v : V} {p : List Key × List D} (s : RS X.K φ H S) (r : Rel X.K φ H x v) (h : x.dict S = some p) : ∃ a, v = .ref a ∧ IsD H a := by
  obtain ⟨ks, ds⟩ := p
  obtain ⟨a, vs, e1, e2, e3, e4⟩ := rel_dict s r h
  exact ⟨a, e1, .inl ⟨_, .inl e2⟩⟩
theorem me_get1 (hu : X.A.units + 64 < cLine) (ho : ME X W o co) (he : ME X W e ce) (m : M1 X o "get" apos e cpos := by exact ⟨rfl, rfl, rfl, rfl⟩) : ME X W (.Call (.Attribute o "get" apos) [e] [] cpos) (cGet1 co ce) := by
  refine ⟨(pe_dget1 (by omega) ho.pe he.pe m).imp fun σ H Q h => ?_⟩
  obtain ⟨ρ, φ, S, hE, hs, h⟩ := h
  refine ⟨ρ, φ, S, hE, hs, h.step fun x S1 φ1 H1 v q l s rx h => ?_⟩
  cases q1 : x.dict S1 with
  | none => simp only [q1] at h; exact h.elim
  | some p =>
    simp only [q1] at h
    obtain ⟨a, e1, e2⟩ := isD_of s rx q1
    refine ⟨a, e1, e2, ρ, φ1, S1, hE.mono l, s, h.step fun y S2 φ2 H2 vy q2 l2 s2 ry h => ?_⟩
    cases q3 : x.dict S2 with
    | none => simp only [q3] at h; exact h.elim
    | some p2 =>
      obtain ⟨ks, ds⟩ := p2
      simp only [q3] at h
      cases q4 : y.key with
      | none => simp only [q4] at h; exact h.elim
      | some κ =>
        simp only [q4] at h
        obtain ⟨a2, vs, f1, f2, f3, f4⟩ := rel_dict s2 (rx.mono l2) q3
        rw [e1] at f1
        cases f1
        refine ⟨valV (ks.zip vs) κ, by rw [rel_key ry q4]; exact DGet.k f2, ?_⟩
        rw [valV_zip f3]
        exact h φ2 H2 _ (Le.refl _ _) s2 (getA_getD f4 .non)
theorem me_get2 (hu : X.A.units + 64 < cLine) (ho : ME X W o co) (he : ME X W e ce) (hf : ME X W f cf) (m : M2 X o "get" apos e f cpos := by exact ⟨rfl, rfl, rfl, rfl⟩) : ME X W (.Call (.Attribute o "get" apos) [e, f] [] cpos) (cGet2 co ce cf) := by
  refine ⟨(pe_dget2 (by omega) ho.pe he.pe hf.pe m).imp fun σ H Q h => ?_⟩
  obtain ⟨ρ, φ, S, hE, hs, h⟩ := h
  refine ⟨ρ, φ, S, hE, hs, h.step fun x S1 φ1 H1 v q l s rx h => ?_⟩
  cases q1 : x.dict S1 with
  | none => simp only [q1] at h; exact h.elim
  | some p =>
    simp only [q1] at h
    obtain ⟨a, e1, e2⟩ := isD_of s rx q1
    refine ⟨a, e1, e2, ρ, φ1, S1, hE.mono l, s, h.step fun y S2 φ2 H2 vy q2 l2 s2 ry h => ⟨ρ, φ2, S2, (hE.mono l).mono l2, s2, h.step fun w S3 φ3 H3 vw q5 l3 s3 rw' h => ?_⟩⟩
    cases q3 : x.dict S3 with
    | none => simp only [q3] at h; exact h.elim
    | some p2 =>
      obtain ⟨ks, ds⟩ := p2
      simp only [q3] at h
      cases q4 : y.key with
      | none => simp only [q4] at h; exact h.elim
      | some κ =>
        simp only [q4] at h
        obtain ⟨a2, vs, f1, f2, f3, f4⟩ := rel_dict s3 ((rx.mono l2).mono l3) q3
        rw [e1] at f1
        cases f1
        refine ⟨valV (ks.zip vs) κ, by rw [rel_key ry q4]; exact DGet.k f2, ?_⟩
        rw [valV_zip f3]
        exact h φ3 H3 _ (Le.refl _ _) s3 (getA_getD f4 rw')
end
end MP

/-! MP: dict displays, sets of keys, lengths. -/
namespace MP
open PySem PySem.Spec PyProof.Rows L2

section
variable {K : PySem.W.Frag} {φ φ0 : Phi} {H H0 : Hp} {S S' S0 : Sto} {p : Addr}
/-- a private thing becomes a changeable object of the store -/
theorem RS.adopt {k l i : Nat} {o : O} (s0 : RS K φ0 H0 S0) (s : RS K φ H S) (e0 : Le φ0 H0 φ H) (h0 : H0 p = none) (mp : p ∈ φ.p) (h : newAt k S o = some (l, i, S')) (hl : o.le l = true) (hr : ∀ φ', Stays φ H φ' H → Grows φ φ' → RO K φ' H o p) :
    ∃ φ', Le φ0 H0 φ' H ∧ RS K φ' H S' ∧ look φ'.r l i = some p := by
  obtain ⟨r', h1, h2⟩ := newAt_both p s.shape.symm h
  have ha := newAt_at h1
  have hb := newAt_at h
  have lk : ∀ l' i', look (Phi.mk r' (φ.p.filter (· ≠ p))).r l' i' = look r' l' i' := fun _ _ => rfl
  have gr : Grows φ ⟨r', φ.p.filter (· ≠ p)⟩ := fun l' i' a e => by
    rw [lk, ha]
    by_cases q : l' = l ∧ i' = i
    · rw [q.1, q.2, newAt_fresh h1] at e
      cases e
    · rw [if_neg q]; exact e
  have aw : ∀ {a}, Away φ a → Away ⟨r', φ.p.filter (· ≠ p)⟩ a := fun {a} w => ⟨fun l' i' e' => by
    rw [lk, ha] at e'
    by_cases q : l' = l ∧ i' = i
    · rw [if_pos q] at e'
      cases e'
      exact w.2 mp
    · rw [if_neg q] at e'
      exact w.1 _ _ e', fun z => w.2 (List.mem_filter.mp z).1⟩
  have st : Stays φ H ⟨r', φ.p.filter (· ≠ p)⟩ H := fun a u e w => ⟨e, aw w⟩
  refine ⟨⟨r', φ.p.filter (· ≠ p)⟩, ⟨(newAt_len h1).trans e0.dep, fun l' i' a e => gr _ _ _ (e0.grow _ _ _ e), fun a u e w => ⟨(e0.stay a u e w).1, aw (e0.stay a u e w).2⟩, fun a q => List.mem_filter.mpr ⟨e0.prv a q, ?_⟩, e0.pst⟩, ⟨h2.symm, fun l' i' o' a e1 e2 => ?_, fun l' i' l2 i2 a e1 e2 => ?_, fun l' i' o' e => ?_, fun l' i' a e => ?_, fun a e => ?_, fun l' i' a e => ?_⟩, ?_⟩
  · have := s0.ptrk a q
    simp only [ne_eq, decide_not, Bool.not_eq_eq_eq_not, Bool.not_true, decide_eq_false_iff_not]
    intro z
    rw [z] at this
    exact this h0
  · rw [lk, ha] at e2
    rw [hb] at e1
    by_cases q : l' = l ∧ i' = i
    · rw [if_pos q] at e1 e2
      cases e1
      cases e2
      exact hr _ st gr
    · rw [if_neg q] at e1 e2
      exact (s.obj l' i' o' a e1 e2).tr st gr fun _ e => e
  · rw [lk, ha] at e1
    rw [lk, ha] at e2
    by_cases q : l' = l ∧ i' = i <;> by_cases q2 : l2 = l ∧ i2 = i
    · omega
    · rw [if_pos q] at e1
      rw [if_neg q2] at e2
      cases e1
      exact absurd mp (s.dis _ _ _ e2)
    · rw [if_neg q] at e1
      rw [if_pos q2] at e2
      cases e2
      exact absurd mp (s.dis _ _ _ e1)
    · rw [if_neg q] at e1
      rw [if_neg q2] at e2
      exact s.inj _ _ _ _ a e1 e2
  · rw [hb] at e
    by_cases q : l' = l ∧ i' = i
    · rw [if_pos q] at e
      cases e
      rw [q.1]; exact hl
    · rw [if_neg q] at e
      exact s.lev _ _ _ e
  · rw [lk, ha] at e
    by_cases q : l' = l ∧ i' = i
    · rw [if_pos q] at e
      cases e
      exact s.ptrk _ mp
    · rw [if_neg q] at e
      exact s.trk _ _ _ e
  · exact s.ptrk _ (List.mem_filter.mp e).1
  · intro z
    rw [lk, ha] at e
    have z2 := List.mem_filter.mp z
    by_cases q : l' = l ∧ i' = i
    · rw [if_pos q] at e
      cases e
      simp at z2
    · rw [if_neg q] at e
      exact s.dis _ _ _ e z2.1
  · rw [lk, ha]; simp
end

/-! ### {k: v, ..} -/
def dpL : List (C × C) → Ro → Sto → R (List (D × D))
  | [], _, S => .ok [] S
  | (k, v) :: r, ρ, S => (k ρ S).bind fun x S => (v ρ S).bind fun y S => (dpL r ρ S).bind fun ps S => .ok ((x, y) :: ps) S
def mkD : List (D × D) → List Key → List D → Option (List Key × List D)
  | [], ks, ds => some (ks, ds)
  | (x, y) :: r, ks, ds => match x.key with
    | some κ => mkD r (putKs ks κ) (putA ks ds κ y)
    | none => none
def cDisp (l : List (C × C)) : C := fun ρ S => (dpL l ρ S).bind fun ps S => match mkD ps [] [] with
  | some (ks, ds) => .ok (.box (.dK ks) ds) S
  | none => .bad
def cDispN (k : Nat) (l : List (C × C)) : C := fun ρ S => (dpL l ρ S).bind fun ps S => match mkD ps [] [] with
  | some (ks, ds) => match newAt k S (.box (.dK ks) ds) with
    | some (l, i, S') => if D.les l ds = true then .ok (.ref l i) S' else .bad
    | none => .bad
  | none => .bad
abbrev RelPs (K : PySem.W.Frag) (φ : Phi) (H : Hp) : List (D × D) → List (V × V) → Prop := Paired fun p q => Rel K φ H p.1 q.1 ∧ Rel K φ H p.2 q.2
structure MPs (X : Cx) (W : WX) (pos : Pos) (ks : List (Option Expr)) (vs : List Expr) (l : List (C × C)) : Prop where
  pp : PPs X pos ks vs (l.map fun t => (rdE X W t.1, rdE X W t.2))
  len : l.length = ks.length
section
variable {X : Cx} {W : WX} {pos : Pos}
theorem mps_nil : MPs X W pos [] [] [] := ⟨pps_nil, rfl⟩
theorem mps_cons {k v : Expr} {ks : List (Option Expr)} {vs : List Expr} {ck cv : C} {l : List (C × C)} (hk : ME X W k ck) (hv : ME X W v cv) (h : MPs X W pos ks vs l) : MPs X W pos (some k :: ks) (v :: vs) ((ck, cv) :: l) :=
  ⟨pps_cons hk.pe hv.pe h.pp, by simp [h.len]⟩
theorem RelPs.mono {K : PySem.W.Frag} {φ φ' : Phi} {H H' : Hp} (e : Le φ H φ' H') {ps : List (D × D)} {vs : List (V × V)} (h : RelPs K φ H ps vs) : RelPs K φ' H' ps vs := Paired.mapP h fun _ _ q => ⟨q.1.mono e, q.2.mono e⟩
theorem pairs_imp {σ : L2.St} {Q : List (V × V) → Hp → Prop} : ∀ (l : List (C × C)) {ρ : Ro} {φ : Phi} {H : Hp} {S : Sto}, RE X.K φ H ρ σ → RS X.K φ H S → Ok X.K X.mg (RelPs X.K) φ H (fun cls d H' => W cls d σ H') Q (dpL l ρ S) → tPairs (l.map fun t => (rdE X W t.1, rdE X W t.2)) σ H Q
  | [], ρ, φ, H, S, hE, hs, h => h φ H [] (Le.refl _ _) hs .nil
  | (k, v) :: l, ρ, φ, H, S, hE, hs, h => by
    unfold dpL at h
    refine ⟨ρ, φ, S, hE, hs, Ok.step h fun x S1 φ1 H1 vx q l1 s1 rx z => ⟨ρ, φ1, S1, hE.mono l1, s1, Ok.step z fun y S2 φ2 H2 vy q2 l2 s2 ry z => ?_⟩⟩
    refine pairs_imp l ((hE.mono l1).mono l2) s2 (Ok.step z fun ps S3 φ3 H3 vs q3 l3 s3 rs z => ?_)
    exact z φ3 H3 _ (Le.refl _ _) s3 (.cons ⟨(rx.mono l2).mono l3, ry.mono l3⟩ rs)
theorem mkD_rel {K : PySem.W.Frag} {φ : Phi} {H : Hp} : ∀ {ps : List (D × D)} {qs : List (V × V)} {ks ks' : List Key} {ds ds' : List D} {vs : List V}, RelPs K φ H ps qs → mkD ps ks ds = some (ks', ds') → ks.length = vs.length → RelL K φ H ds vs →
    ∃ kvs vs', qs = kvs.map (fun kv : Key × V => (kV kv.1, kv.2)) ∧ kvs.length = ps.length ∧ ks'.length = vs'.length ∧ mergeK (ks.zip vs) kvs = ks'.zip vs' ∧ RelL K φ H ds' vs'
  | _, _, ks, ks', ds, ds', vs, .nil, h, hl, r => by
    simp only [mkD, Option.some.injEq, Prod.mk.injEq] at h
    obtain ⟨rfl, rfl⟩ := h
    exact ⟨[], vs, rfl, rfl, hl, rfl, r⟩
  | (x, y) :: ps, (u, v) :: qs, ks, ks', ds, ds', vs, .cons rp rps, h, hl, r => by
    unfold mkD at h
    cases q1 : x.key with
    | none => simp only [q1] at h; cases h
    | some κ =>
      simp only [q1] at h
      obtain ⟨kvs, vs', e1, e2, e3, e4, e5⟩ := mkD_rel rps h (putA_len (a := v) hl) (putA_rel r rp.2)
      refine ⟨(κ, v) :: kvs, vs', ?_, by simp [e2], e3, ?_, e5⟩
      · rw [List.map_cons, ← e1, ← rel_key rp.1 q1]
      · rw [← e4]
        show mergeK (putK (ks.zip vs) κ v) kvs = _
        rw [putK_zip hl]
theorem dpL_len : ∀ {l : List (C × C)} {ρ : Ro} {S S' : Sto} {ps : List (D × D)}, dpL l ρ S = .ok ps S' → ps.length = l.length
  | [], _, _, _, _, h => by cases h; rfl
  | (k, v) :: l, ρ, S, S', ps, h => by
    unfold dpL at h
    cases q1 : k ρ S with
    | err x S1 => rw [q1] at h; cases h
    | bad => rw [q1] at h; cases h
    | ok x S1 =>
      rw [q1, R.bind_ok] at h
      cases q2 : v ρ S1 with
      | err x S1 => rw [q2] at h; cases h
      | bad => rw [q2] at h; cases h
      | ok y S2 =>
        rw [q2, R.bind_ok] at h
        cases q3 : dpL l ρ S2 with
        | err x S1 => rw [q3] at h; cases h
        | bad => rw [q3] at h; cases h
        | ok ps2 S3 =>
          rw [q3, R.bind_ok] at h
          injection h with h1 h2
          rw [← h1, List.length_cons, List.length_cons, dpL_len q3]
theorem disp_imp {l : List (C × C)} {f : List Key → List D → Sto → R D} (h15 : l.length ≤ 15) {σ : L2.St} {H : Hp} {Q : VK} (h : rdE X W (fun ρ S => (dpL l ρ S).bind fun ps S => match mkD ps [] [] with
    | some (ks, ds) => f ks ds S
    | none => .bad) σ H Q)
    (k : ∀ (φ0 : Phi) (H0 : Hp) (S0 : Sto) (p : Addr) (φ2 : Phi) (H2 : Hp) (S2 : Sto) (ks : List Key) (ds : List D) (vs : List V), RS X.K φ0 H0 S0 → H0 p = none → Le φ0 H0 φ2 (upd H2 p (.dK (ks.zip vs))) → RS X.K φ2 (upd H2 p (.dK (ks.zip vs))) S2 → p ∈ φ2.p → ks.length = vs.length →
      RelL X.K φ2 (upd H2 p (.dK (ks.zip vs))) ds vs → Ok X.K X.mg (Rel X.K) φ0 H0 (fun cls d H' => W cls d σ H') Q (f ks ds S2) → Q (.ref p) (upd H2 p (.dK (ks.zip vs)))) :
    tDisp (l.map fun t => (rdE X W t.1, rdE X W t.2)) σ H Q := by
  obtain ⟨ρ, φ, S, hE, hs, h⟩ := h
  intro p hp
  have leP : Le φ H ⟨φ.r, p :: φ.p⟩ (upd H p (.dK [])) := Le.prive hp _
  refine pairs_imp l (hE.mono leP) (hs.prive hp _) ?_
  have h : Ok X.K X.mg (Rel X.K) φ H (fun cls d H' => W cls d σ H') Q ((dpL l ρ S).bind fun ps S => match mkD ps [] [] with
    | some (ks, ds) => f ks ds S
    | none => .bad) := h
  cases q : dpL l ρ S with
  | bad => rw [q] at h; exact h.elim
  | err x S1 =>
    rw [q] at h
    exact fun φ2 H2 cls d l2 s2 rx => h φ2 H2 cls d (leP.trans l2) s2 rx
  | ok ps S1 =>
    rw [q, R.bind_ok] at h
    intro φ2 H2 qs l2 s2 rps
    have mp2 : p ∈ φ2.p := l2.prv p List.mem_cons_self
    have hp2 : H2 p = some (.dK []) := l2.pst p _ List.mem_cons_self upd_same
    refine ⟨hp2, ?_⟩
    cases q2 : mkD ps [] [] with
    | none => simp only [q2] at h; exact h.elim
    | some t =>
      obtain ⟨ks, ds⟩ := t
      simp only [q2] at h
      obtain ⟨kvs, vs, e1, e2, e3, e4, e5⟩ := mkD_rel rps q2 rfl .nil
      refine ⟨kvs, e1, by rw [e2, dpL_len q]; exact h15, ?_⟩
      have e4' : mergeK [] kvs = ks.zip vs := e4
      rw [e4']
      have l3 : Le φ H φ2 (upd H2 p (.dK (ks.zip vs))) := Le.priv s2 mp2 _ φ H hp (leP.trans l2)
      exact k φ H S p φ2 H2 S1 ks ds vs hs hp l3 (s2.priv mp2 _) mp2 e3 (RelL.priv _ mp2 e5) h
theorem me_disp {ks : List (Option Expr)} {vs : List Expr} {l : List (C × C)} (h : MPs X W pos ks vs l) (hall : ks.all (·.isSome) = true := by rfl) (hl : ks.length = vs.length := by rfl) (h0 : ks ≠ [] := by exact List.cons_ne_nil _ _) (h15 : ks.length ≤ 15 := by decide) :
    ME X W (.Dict ks vs pos) (cDisp l) := by
  refine ⟨(pe_disp h.pp hall hl h0 h15).imp fun σ H Q z => disp_imp (f := fun ks ds S => .ok (.box (.dK ks) ds) S) (by rw [h.len]; exact h15) z ?_⟩
  intro φ0 H0 S0 p φ2 H2 S2 ks ds vs s0 h0 e0 s2 mp e3 r z
  refine z (φ2.out p) _ _ (Le.out s0 h0 e0) s2.out (.box ⟨e3, upd_same⟩ (by rw [upd_same]; simp) ⟨fun l i e => s2.dis l i p e mp, fun q => ?_⟩ (RelL.out r))
  have := (List.mem_filter.mp q).2
  simp at this
theorem me_dispN (k : Nat) {ks : List (Option Expr)} {vs : List Expr} {l : List (C × C)} (h : MPs X W pos ks vs l) (hall : ks.all (·.isSome) = true := by rfl) (hl : ks.length = vs.length := by rfl) (h0 : ks ≠ [] := by exact List.cons_ne_nil _ _) (h15 : ks.length ≤ 15 := by decide) :
    ME X W (.Dict ks vs pos) (cDispN k l) := by
  refine ⟨(pe_disp h.pp hall hl h0 h15).imp fun σ H Q z => disp_imp (f := fun ks ds S => match newAt k S (.box (.dK ks) ds) with
    | some (l, i, S') => if D.les l ds = true then .ok (.ref l i) S' else .bad
    | none => .bad) (by rw [h.len]; exact h15) z ?_⟩
  intro φ0 H0 S0 p φ2 H2 S2 ks ds vs s0 h0 e0 s2 mp e3 r z
  cases q : newAt k S2 (.box (.dK ks) ds) with
  | none => simp only [q] at z; exact z.elim
  | some t =>
    obtain ⟨l, i, S'⟩ := t
    simp only [q] at z
    by_cases hle : D.les l ds = true
    · simp only [hle, if_true] at z
      obtain ⟨φ', l3, s3, lk⟩ := RS.adopt (o := .box (.dK ks) ds) s0 s2 e0 h0 mp q hle fun φ' st gr => ⟨vs, ⟨e3, upd_same⟩, r.tr st gr⟩
      exact z φ' _ _ l3 s3 (.ref lk)
    · simp only [hle, Bool.false_eq_true, if_false] at z
      exact z.elim
/-- {} -/
def cEmptyK (k : Nat) : C := fun _ S => match newAt k S (.box (.dK []) []) with
  | some (l, i, S') => .ok (.ref l i) S'
  | none => .bad
def cEmpty : C := fun _ S => .ok (.box (.dK []) []) S
theorem me_emptyK (k : Nat) : ME X W (.Dict [] [] pos) (cEmptyK k) := by
  refine ⟨pe_dnewK.imp fun σ H Q h => ?_⟩
  obtain ⟨ρ, φ, S, hE, hs, h⟩ := h
  intro p hp
  unfold cEmptyK at h
  cases q : newAt k S (.box (.dK []) []) with
  | none => simp only [q] at h; exact h.elim
  | some t =>
    obtain ⟨l, i, S'⟩ := t
    simp only [q] at h
    obtain ⟨φ', le, s', hq⟩ := hs.newed (u := .dK []) (o := .box (.dK []) []) hp q rfl fun φ' le => ⟨[], ⟨rfl, upd_same⟩, .nil⟩
    exact h φ' _ _ le s' (.ref hq)
theorem me_empty : ME X W (.Dict [] [] pos) cEmpty := by
  refine ⟨pe_dnewK.imp fun σ H Q h => ?_⟩
  obtain ⟨ρ, φ, S, hE, hs, h⟩ := h
  intro p hp
  exact h φ _ _ (Le.fresh hp) (hs.laid hp) (.box ⟨rfl, by rw [upd_same]; rfl⟩ (by rw [upd_same]; simp) (hs.fresh hp) .nil)
end
end MP

/-! MP: methods of texts and lists, f-strings. -/
namespace MP
open PySem PySem.Spec PyProof.Rows L2

/-- what a method's receiver must be seen to be -/
def D.isT (T : String) (S : Sto) : D → Bool
  | .str _ => T == "str"
  | .lst _ => T == "list"
  | .rol _ => T == "list"
  | .box (.dK _) _ => T == "dict"
  | .ref l i => match look S l i with
    | some (.lst _) => T == "list"
    | some (.box (.dK _) _) => T == "dict"
    | _ => false
  | _ => false
abbrev GM := D → List D → Sto → R D
def cMeth (T : String) (g : GM) (o : C) (a : CA) : C := fun ρ S => (o ρ S).bind fun x S => if x.isT T S = true then (a ρ S).bind fun ds S => g x ds S else .bad
structure KM (X : Cx) (T : String) (name : Str) (g : GM) : Prop where
  pa : PlainAttrs T
  ex : ∃ (id : String) (r : V → List V → Hp → VK → Prop), Slot T name id ∧ typeOf (.builtin id) = pure (.type "method_descriptor") ∧ MtR X id r ∧
    ∀ (W : WX) (σ : L2.St) (φ : Phi) (H : Hp) (S : Sto) (x : D) (vx : V) (ds : List D) (vs : List V) (Q : VK), RS X.K φ H S → Rel X.K φ H x vx → RelL X.K φ H ds vs → Ok X.K X.mg (Rel X.K) φ H (fun cls d H' => W cls d σ H') Q (g x ds S) → r vx vs H Q
theorem tyV_of {K : PySem.W.Frag} {φ : Phi} {H : Hp} {S : Sto} {T : String} {x : D} {v : V} (s : RS K φ H S) (r : Rel K φ H x v) (h : x.isT T S = true) : tyV K T v H := by
  cases r with
  | str y => exact beq_iff_eq.mp h
  | lst z f w rr => exact .inl ⟨beq_iff_eq.mp h, _, SqL.of f⟩
  | rol z f rr => exact .inl ⟨beq_iff_eq.mp h, _, f.sq⟩
  | @box a vs ds b at_ n w rr =>
    cases b with
    | dK ks => exact .inr (.inr (.inl ⟨beq_iff_eq.mp h, .inl ⟨_, at_.2⟩⟩))
    | dT ks => simp [D.isT] at h
    | ins c fs => simp [D.isT] at h
  | @ref l i a e =>
    unfold D.isT at h
    cases q : look S l i with
    | none => simp [q] at h
    | some o =>
      cases o with
      | dead => simp [q] at h
      | lst xs =>
        simp only [q] at h
        obtain ⟨vs, hv, _⟩ := s.obj l i _ a q e
        exact .inl ⟨beq_iff_eq.mp h, _, SqL.of hv⟩
      | box b xs =>
        cases b with
        | dK ks =>
          simp only [q] at h
          obtain ⟨vs, hv, _⟩ := s.obj l i _ a q e
          exact .inr (.inr (.inl ⟨beq_iff_eq.mp h, .inl ⟨_, hv.2⟩⟩))
        | dT ks => simp [q] at h
        | ins c fs => simp [q] at h
  | _ => simp [D.isT] at h
section
variable {X : Cx} {W : WX} {o e : Expr} {es : List Expr} {co : C} {ca : CA} {name : Str} {T : String} {g : GM} {apos cpos : Pos}
theorem me_m0 (M : KM X T name g) (ho : ME X W o co) (hbase : attributeBase o name X.env (eval o X.env) = eval o X.env := by rfl) (hline : (apos.endLine == cpos.line) = true := by rfl) :
    ME X W (.Call (.Attribute o name apos) [] [] cpos) (cMeth T g co caNil) := by
  obtain ⟨id, r, sl, ty, hm, k⟩ := M.ex
  refine ⟨(pe_bm0 M.pa sl ty hm ho.pe hbase hline).imp fun σ H Q h => ?_⟩
  obtain ⟨ρ, φ, S, hE, hs, h⟩ := h
  refine ⟨ρ, φ, S, hE, hs, h.step fun x S1 φ1 H1 v q l s rx z => ?_⟩
  by_cases ht : x.isT T S1 = true
  · simp only [ht, if_true] at z
    exact ⟨tyV_of s rx ht, k W σ φ1 H1 S1 x v [] [] Q s rx .nil z⟩
  · simp only [ht, Bool.false_eq_true, if_false] at z
    exact z.elim
theorem me_m (M : KM X T name g) (ho : ME X W o co) (ha : MA X W (e :: es) ca) (hbase : attributeBase o name X.env (eval o X.env) = eval o X.env := by rfl)
    (hfew : ((backTo cpos (starEach (e :: es) X.env)).all (fun x => !x.1) && (backToKw cpos (keywordEach [] X.env)).all (fun x => x.1.isSome)
      && decide ((e :: es).length + ([] : List Keyword).length + (if ([] : List Keyword).isEmpty then 0 else 1) < 30)) = true := by rfl)
    (hline : (apos.endLine == cpos.line) = true := by rfl) (hs : starEach (e :: es) X.env = (false, eval e X.env) :: starEach es X.env := by rfl) (hplain : (backTo cpos (starEach es X.env)).any (·.1) = false := by rfl) :
    ME X W (.Call (.Attribute o name apos) (e :: es) [] cpos) (cMeth T g co ca) := by
  obtain ⟨id, r, sl, ty, hm, k⟩ := M.ex
  refine ⟨(pe_bm M.pa sl ty hm ho.pe ha.pa hbase hfew hline hs hplain).imp fun σ H Q h => ?_⟩
  obtain ⟨ρ, φ, S, hE, hs, h⟩ := h
  refine ⟨ρ, φ, S, hE, hs, h.step fun x S1 φ1 H1 v q l s rx z => ?_⟩
  by_cases ht : x.isT T S1 = true
  · simp only [ht, if_true] at z
    refine ⟨tyV_of s rx ht, ρ, φ1, S1, hE.mono l, s, z.step fun ds S2 φ2 H2 vs q2 l2 s2 r2 z => ?_⟩
    exact k W σ φ2 H2 S2 x v ds vs Q s2 (rx.mono l2) r2 z
  · simp only [ht, Bool.false_eq_true, if_false] at z
    exact z.elim
end

/-! ### texts -/
def strsO : List D → Option (List Str)
  | [] => some []
  | .str x :: ds => match strsO ds with
    | some ys => some (x :: ys)
    | none => none
  | _ :: _ => none
theorem strsO_rel {K : PySem.W.Frag} {φ : Phi} {H : Hp} : ∀ {ds : List D} {vs : List V} {ys : List Str}, RelL K φ H ds vs → strsO ds = some ys → vs = ys.map V.str
  | _, _, ys, .nil, h => by
    simp only [strsO, Option.some.injEq] at h
    subst h; rfl
  | d :: ds, v :: vs, ys, .cons r rs, h => by
    cases r <;> try (simp [strsO] at h; done)
    rename_i x
    unfold strsO at h
    cases q : strsO ds with
    | none => simp [q] at h
    | some zs =>
      simp only [q, Option.some.injEq] at h
      subst h
      rw [strsO_rel rs q]
      rfl
theorem rel_strs {K : PySem.W.Frag} {φ : Phi} {H : Hp} : ∀ (ys : List Str), RelL K φ H (ys.map D.str) (ys.map V.str)
  | [] => .nil
  | y :: ys => .cons (.str y) (rel_strs ys)
/-- the items of what can be walked at once -/
def D.items (S : Sto) : D → Option (List D)
  | .tup xs => some xs
  | .lst xs => some xs
  | .rol xs => some xs
  | .ref l i => match look S l i with
    | some (.lst xs) => some xs
    | _ => none
  | _ => none
theorem rel_items {K : PySem.W.Frag} {φ : Phi} {H : Hp} {S : Sto} {d : D} {v : V} {xs : List D} (s : RS K φ H S) (r : Rel K φ H d v) (h : d.items S = some xs) : ∃ a vs, v = .ref a ∧ (SqL K H a vs ∨ SqT K H a vs) ∧ RelL K φ H xs vs := by
  cases r with
  | tup z f rr => cases h; exact ⟨_, _, rfl, .inr f.sq, rr⟩
  | lst z f w rr => cases h; exact ⟨_, _, rfl, .inl (SqL.of f), rr⟩
  | rol z f rr => cases h; exact ⟨_, _, rfl, .inl f.sq, rr⟩
  | @ref l i a e =>
    unfold D.items at h
    cases q : look S l i with
    | none => simp [q] at h
    | some o =>
      cases o with
      | lst ys =>
        simp only [q, Option.some.injEq] at h
        subst h
        obtain ⟨vs, hv, _, rr⟩ := s.obj l i _ a q e
        exact ⟨a, vs, rfl, .inl (SqL.of hv), rr⟩
      | box b ys => simp [q] at h
      | dead => simp [q] at h
  | _ => simp [D.items] at h
def gJoin : GM := fun x ds S => match x, ds with
  | .str a, [y] => match y.items S with
    | some xs => match strsO xs with
      | some ys => if (ys.map (·.length)).sum + ys.length * a.length ≤ 16777216 then .ok (.str (Txt.join a ys)) S else .bad
      | none => .bad
    | none => .bad
  | _, _ => .bad
def gSplit : GM := fun x ds S => match x, ds with
  | .str a, [.str b] => if b.length ≠ 0 ∧ a.length ≤ 16000000 then .ok (.lst ((Txt.split a b).map D.str)) S else .bad
  | _, _ => .bad
def gSplit0 : GM := fun x ds S => match x, ds with
  | .str a, [] => if a.length ≤ 16000000 then .ok (.lst ((Txt.words a).map D.str)) S else .bad
  | _, _ => .bad
def gStrip : GM := fun x ds S => match x, ds with
  | .str a, [] => if a.length ≤ 16000000 then .ok (.str (Txt.strip a)) S else .bad
  | _, _ => .bad
def gStarts : GM := fun x ds S => match x, ds with
  | .str a, [.str b] => .ok (.bl (Txt.startswith a b)) S
  | _, _ => .bad
def gEnds : GM := fun x ds S => match x, ds with
  | .str a, [.str b] => .ok (.bl (Txt.endswith a b)) S
  | _, _ => .bad
def gFind : GM := fun x ds S => match x, ds with
  | .str a, [.str b] => .ok (.int (Txt.find a b)) S
  | _, _ => .bad
def gCount : GM := fun x ds S => match x, ds with
  | .str a, [.str b] => .ok (.int (Txt.count a b)) S
  | _, _ => .bad
section
variable {X : Cx}
theorem split_len (a b : Str) : True := trivial
theorem relD1 {K : PySem.W.Frag} {φ : Phi} {H : Hp} {d : D} {vs : List V} (r : RelL K φ H [d] vs) : ∃ v, vs = [v] ∧ Rel K φ H d v := by
  cases r with
  | cons r rr => cases rr; exact ⟨_, rfl, r⟩
theorem km_join : KM X "str" "join" gJoin := ⟨F.plainAttrs_str, _, _, F.slot_str_join, F.type_str_join, mt_join, fun W σ φ H S x vx ds vs Q s rx r z => by
  unfold gJoin at z
  split at z
  · rename_i a y
    cases rx
    obtain ⟨v, rfl, ry⟩ := relD1 r
    cases q : y.items S with
    | none => simp only [q] at z; exact z.elim
    | some xs =>
      simp only [q] at z
      cases q2 : strsO xs with
      | none => simp only [q2] at z; exact z.elim
      | some ys =>
        simp only [q2] at z
        by_cases hz : (ys.map (·.length)).sum + ys.length * a.length ≤ 16777216
        · simp only [hz, if_true] at z
          obtain ⟨p, vs, rfl, hp, rr⟩ := rel_items s ry q
          have e := strsO_rel rr q2
          subst e
          exact ⟨a, p, ys, rfl, rfl, hp, hz, z φ H _ (Le.refl _ _) s (.str _)⟩
        · simp only [hz, if_false] at z; exact z.elim
  · exact z.elim⟩
theorem new_strs {W : WX} {σ : L2.St} {φ : Phi} {H : Hp} {S : Sto} {ys : List Str} {Q : VK} (s : RS X.K φ H S) (hz : ys.length ≤ sizeLine) (z : Ok X.K X.mg (Rel X.K) φ H (fun cls d H' => W cls d σ H') Q (.ok (.lst (ys.map D.str)) S)) : rNewStrs ys H Q := fun p hp =>
  z φ _ _ (Le.fresh hp) (s.laid hp) (.lst (by simpa using hz) upd_same (s.fresh hp) ((rel_strs ys).laid hp))
theorem km_split : KM X "str" "split" gSplit := ⟨F.plainAttrs_str, _, _, F.slot_str_split, F.type_str_split, mt_split, fun W σ φ H S x vx ds vs Q s rx r z => by
  unfold gSplit at z
  split at z
  · rename_i a b
    cases rx
    obtain ⟨v, rfl, ry⟩ := relD1 r
    cases ry
    by_cases hz : b.length ≠ 0 ∧ a.length ≤ 16000000
    · simp only [hz, if_true, and_self, ne_eq, not_false_eq_true] at z
      have h2 : a.length + 2 ≤ sizeLine := by rw [sizeLine_eq]; omega
      exact ⟨a, b, rfl, rfl, by simpa using hz.1, h2, new_strs s (Nat.le_trans (PyProof.Rows.split_le a b) h2) z⟩
    · simp only [hz, if_false] at z; exact z.elim
  · exact z.elim⟩
theorem km_strip : KM X "str" "strip" gStrip := ⟨F.plainAttrs_str, _, _, F.slot_str_strip, F.type_str_strip, mt_strip, fun W σ φ H S x vx ds vs Q s rx r z => by
  unfold gStrip at z
  split at z
  · rename_i a
    cases rx
    cases r
    by_cases hz : a.length ≤ 16000000
    · simp only [hz, if_true] at z
      exact ⟨a, rfl, rfl, line_ge hz, z φ H _ (Le.refl _ _) s (.str _)⟩
    · simp only [hz, if_false] at z; exact z.elim
  · exact z.elim⟩
theorem km_starts : KM X "str" "startswith" gStarts := ⟨F.plainAttrs_str, _, _, F.slot_str_startswith, F.type_str_startswith, mt_startswith, fun W σ φ H S x vx ds vs Q s rx r z => by
  unfold gStarts at z
  split at z
  · cases rx
    obtain ⟨v, rfl, ry⟩ := relD1 r
    cases ry
    exact ⟨_, _, rfl, rfl, z φ H _ (Le.refl _ _) s (.bl _)⟩
  · exact z.elim⟩
theorem km_ends : KM X "str" "endswith" gEnds := ⟨F.plainAttrs_str, _, _, F.slot_str_endswith, F.type_str_endswith, mt_endswith, fun W σ φ H S x vx ds vs Q s rx r z => by
  unfold gEnds at z
  split at z
  · cases rx
    obtain ⟨v, rfl, ry⟩ := relD1 r
    cases ry
    exact ⟨_, _, rfl, rfl, z φ H _ (Le.refl _ _) s (.bl _)⟩
  · exact z.elim⟩
theorem km_find : KM X "str" "find" gFind := ⟨F.plainAttrs_str, _, _, F.slot_str_find, F.type_str_find, mt_find, fun W σ φ H S x vx ds vs Q s rx r z => by
  unfold gFind at z
  split at z
  · cases rx
    obtain ⟨v, rfl, ry⟩ := relD1 r
    cases ry
    exact ⟨_, _, rfl, rfl, z φ H _ (Le.refl _ _) s (.int _)⟩
  · exact z.elim⟩
theorem km_count : KM X "str" "count" gCount := ⟨F.plainAttrs_str, _, _, F.slot_str_count, F.type_str_count, mt_count, fun W σ φ H S x vx ds vs Q s rx r z => by
  unfold gCount at z
  split at z
  · cases rx
    obtain ⟨v, rfl, ry⟩ := relD1 r
    cases ry
    exact ⟨_, _, rfl, rfl, z φ H _ (Le.refl _ _) s (.int _)⟩
  · exact z.elim⟩

/-! ### lists -/
def gPop : GM := fun x ds S => match x, ds with
  | .ref l n, [] => match look S l n with
    | some (.lst xs) => match xs[xs.length - 1]? with
      | some y => .ok y (put S l n (.lst xs.dropLast))
      | none => .bad
    | _ => .bad
  | _, _ => .bad
theorem les_dropLast {l : Nat} : ∀ {xs : List D}, D.les l xs = true → D.les l xs.dropLast = true
  | [], _ => rfl
  | [x], _ => rfl
  | x :: y :: xs, h => by
    simp only [D.les, Bool.and_eq_true] at h
    rw [List.dropLast_cons₂]
    simp only [D.les, Bool.and_eq_true]
    exact ⟨h.1, les_dropLast (by simp only [D.les, Bool.and_eq_true]; exact h.2)⟩
theorem relL_dropLast {K : PySem.W.Frag} {φ : Phi} {H : Hp} : ∀ {ds : List D} {vs : List V}, RelL K φ H ds vs → RelL K φ H ds.dropLast vs.dropLast
  | _, _, .nil => .nil
  | _, _, .cons r .nil => .nil
  | _, _, .cons r (.cons r2 rs) => by
    rw [List.dropLast_cons₂, List.dropLast_cons₂]
    exact .cons r (relL_dropLast (.cons r2 rs))
theorem km_pop : KM X "list" "pop" gPop := ⟨F.plainAttrs_list, _, _, F.slot_list_pop, F.type_list_pop, mt_pop, fun W σ φ H S x vx ds vs Q s rx r z => by
  unfold gPop at z
  split at z
  · rename_i l n
    cases rx
    rename_i p e
    cases r
    cases q : look S l n with
    | none => simp only [q] at z; exact z.elim
    | some o =>
      cases o with
      | dead => simp only [q] at z; exact z.elim
      | box b xs => simp only [q] at z; exact z.elim
      | lst xs =>
        simp only [q] at z
        obtain ⟨vs, hv, zz, rr⟩ := s.obj l n _ p q e
        have hle : D.les l xs = true := s.lev l n _ q
        cases q2 : xs[xs.length - 1]? with
        | none => simp only [q2] at z; exact z.elim
        | some y =>
          simp only [q2] at z
          obtain ⟨v, h1, h2⟩ := rr.get q2
          rw [rr.length] at h1
          refine ⟨p, vs, v, rfl, rfl, hv, h1, z φ _ v (Le.put s e) (s.put e q (les_dropLast hle) ⟨_, upd_same, ?_, RelL.mono (Le.put s e) (relL_dropLast rr)⟩) (h2.mono (Le.put s e))⟩
          rw [List.length_dropLast]; omega
  · exact z.elim⟩
end
/-- list.index of flat values, list.index of nested ones -/
def idxD (x : D) : List D → Nat → Option Nat
  | [], _ => none
  | z :: zs, i => if PyData.eqv z.toP x.toP then some i else idxD x zs (i + 1)
theorem rel_itemsL {K : PySem.W.Frag} {φ : Phi} {H : Hp} {S : Sto} {d : D} {v : V} {xs : List D} (s : RS K φ H S) (r : Rel K φ H d v) (h : d.items S = some xs) (ht : d.isT "list" S = true) : ∃ a vs, v = .ref a ∧ SqL K H a vs ∧ RelL K φ H xs vs := by
  cases r with
  | tup z f rr => simp [D.isT] at ht
  | lst z f w rr => cases h; exact ⟨_, _, rfl, SqL.of f, rr⟩
  | rol z f rr => cases h; exact ⟨_, _, rfl, f.sq, rr⟩
  | @ref l i a e =>
    unfold D.items at h
    cases q : look S l i with
    | none => simp [q] at h
    | some o =>
      cases o with
      | lst ys =>
        simp only [q, Option.some.injEq] at h
        subst h
        obtain ⟨vs, hv, _, rr⟩ := s.obj l i _ a q e
        exact ⟨a, vs, rfl, SqL.of hv, rr⟩
      | box b ys => simp [q] at h
      | dead => simp [q] at h
  | _ => simp [D.items] at h
def gIndex : GM := fun x ds S => if x.isT "list" S = true then match ds with
  | [y] => match x.items S with
    | some xs => if SeqAt.shaped y.toP && SeqAt.shaped (.list (D.toPs xs)) then match idxD y xs 0 with
        | some j => .ok (.int j) S
        | none => .bad
      else .bad
    | none => .bad
  | _ => .bad
  else .bad
theorem idxD_at {x : D} : ∀ {xs : List D} {i j : Nat}, idxD x xs i = some j → ∃ k z, j = i + k ∧ (D.toPs xs)[k]? = some z ∧ PyData.eqv z x.toP = true ∧ ∀ m z', m < k → (D.toPs xs)[m]? = some z' → PyData.eqv z' x.toP = false
  | [], _, _, h => by cases h
  | z :: zs, i, j, h => by
    unfold idxD at h
    by_cases e : PyData.eqv z.toP x.toP = true
    · simp only [e, if_true, Option.some.injEq] at h
      exact ⟨0, z.toP, by omega, rfl, e, fun m z' hm => by omega⟩
    · simp only [e, Bool.false_eq_true, if_false] at h
      obtain ⟨k, w, h1, h2, h3, h4⟩ := idxD_at h
      refine ⟨k + 1, w, by omega, by simpa [D.toPs] using h2, h3, fun m z' hm hz => ?_⟩
      cases m with
      | zero =>
        simp only [D.toPs, List.getElem?_cons_zero, Option.some.injEq] at hz
        subst hz
        simpa using e
      | succ m => exact h4 m z' (by omega) (by simpa [D.toPs] using hz)
section
variable {X : Cx}
theorem km_index (hu : X.A.units + 65 < cLine) : KM X "list" "index" gIndex := ⟨F.plainAttrs_list, _, _, F.slot_list_index, F.type_list_index, mt_indexD hu, fun W σ φ H S x vx ds vs Q s rx r z => by
  unfold gIndex at z
  by_cases ht : x.isT "list" S = true
  case neg => simp only [ht, Bool.false_eq_true, if_false] at z; exact z.elim
  simp only [ht, if_true] at z
  split at z
  · rename_i y
    obtain ⟨v, rfl, ry⟩ := relD1 r
    cases q : x.items S with
    | none => simp only [q] at z; exact z.elim
    | some xs =>
      simp only [q] at z
      by_cases hs : (SeqAt.shaped y.toP && SeqAt.shaped (.list (D.toPs xs))) = true
      · simp only [hs, if_true] at z
        rw [Bool.and_eq_true] at hs
        cases q2 : idxD y xs 0 with
        | none => simp only [q2] at z; exact z.elim
        | some j =>
          simp only [q2] at z
          obtain ⟨k, w, e1, e2, e3, e4⟩ := idxD_at q2
          obtain ⟨a, ws, e5, e6, e7⟩ := rel_itemsL s rx q ht
          have c2 : PyData.canLayAll0 (D.toPs xs) = true := by
            have := SeqAt.canLay_of_shaped hs.2
            simpa [PyData.canLay0] using this
          have hk : j = k := by omega
          subst hk
          exact ⟨a, v, y.toP, _, j, w, e5, rfl, .lst e6 (dps_of e7 c2), dp_of ry (SeqAt.canLay_of_shaped hs.1), hs.2, hs.1, e2, e3, e4, z φ H _ (Le.refl _ _) s (.int _)⟩
      · simp only [hs, Bool.false_eq_true, if_false] at z
        exact z.elim
  · exact z.elim⟩
end
end MP

/-! MP: operators over changeable lists, f-strings, constants of the module. -/
namespace MP
open PySem PySem.Spec PyProof.Rows L2

/-- the items of a list, changeable or not (none of the written part) -/
def D.lsts (S : Sto) : D → Option (List D)
  | .lst xs => some xs
  | .ref l i => match look S l i with
    | some (.lst xs) => some xs
    | _ => none
  | _ => none
theorem rel_lsts {K : PySem.W.Frag} {φ : Phi} {H : Hp} {S : Sto} {d : D} {v : V} {xs : List D} (s : RS K φ H S) (r : Rel K φ H d v) (h : d.lsts S = some xs) : ∃ a vs, v = .ref a ∧ H a = some (.lst vs) ∧ vs.length ≤ sizeLine ∧ RelL K φ H xs vs := by
  cases r with
  | lst z f w rr => cases h; exact ⟨_, _, rfl, f, z, rr⟩
  | @ref l i a e =>
    unfold D.lsts at h
    cases q : look S l i with
    | none => simp [q] at h
    | some o =>
      cases o with
      | lst ys =>
        simp only [q, Option.some.injEq] at h
        subst h
        obtain ⟨vs, hv, z, rr⟩ := s.obj l i _ a q e
        exact ⟨a, vs, rfl, hv, z, rr⟩
      | box b ys => simp [q] at h
      | dead => simp [q] at h
  | _ => simp [D.lsts] at h
/-- a += b of lists -/
def gExt : G2 := fun x y S => match x with
  | .ref l n => match look S l n with
    | some (.lst xs) => match y.lsts S with
      | some ys => if xs.length + ys.length ≤ 16000000 ∧ D.les l (xs ++ ys) = true then .ok x (put S l n (.lst (xs ++ ys))) else .bad
      | none => .bad
    | _ => .bad
  | _ => .bad
def gIAddA : G2 := fun x y S => match x with
  | .ref _ _ => gExt x y S
  | _ => gIAdd x y S
def gCatM : G2 := fun x y S => match x.lsts S with
  | some xs => match y.lsts S with
    | some ys => if xs.length + ys.length ≤ 16000000 then .ok (.lst (xs ++ ys)) S else .bad
    | none => .bad
  | none => .bad
def gAddA : G2 := fun x y S => match x.lsts S with
  | some _ => gCatM x y S
  | none => gAdd x y S
def gEqT : G2 := fun x y S => if SeqAt.shaped (x.top S).toP && SeqAt.shaped (y.top S).toP then .ok (.bl (PyData.eqv (x.top S).toP (y.top S).toP)) S else .bad
def gNeT : G2 := fun x y S => if SeqAt.shaped (x.top S).toP && SeqAt.shaped (y.top S).toP then .ok (.bl (!PyData.eqv (x.top S).toP (y.top S).toP)) S else .bad
def D.isRef : D → Bool
  | .ref _ _ => true
  | _ => false
def gEqA : G2 := fun x y S => if x.isRef || y.isRef then gEqT x y S else gEq x y S
def gNeA : G2 := fun x y S => if x.isRef || y.isRef then gNeT x y S else gNe x y S
section
variable {X : Cx}
theorem os_ext : OS X (inplaceOp .Add) gExt := by
  refine ⟨_, iop_ext, fun W σ φ H S x y vx vy Q s rx ry z => ?_⟩
  unfold gExt at z
  split at z
  · rename_i l n
    cases rx
    rename_i p e
    cases q : look S l n with
    | none => simp only [q] at z; exact z.elim
    | some o =>
      cases o with
      | dead => simp only [q] at z; exact z.elim
      | box b xs => simp only [q] at z; exact z.elim
      | lst xs =>
        simp only [q] at z
        obtain ⟨vs, hv, zz, rr⟩ := s.obj l n _ p q e
        cases q2 : y.lsts S with
        | none => simp only [q2] at z; exact z.elim
        | some ys =>
          simp only [q2] at z
          by_cases h : xs.length + ys.length ≤ 16000000 ∧ D.les l (xs ++ ys) = true
          · simp only [h, and_self, if_true] at z
            obtain ⟨b, ws, rfl, hb, _, rw'⟩ := rel_lsts s ry q2
            have hl : vs.length + ws.length ≤ 16000000 := by rw [← rr.length, ← rw'.length]; exact h.1
            refine ⟨p, b, vs, ws, rfl, rfl, hv, hb, by rw [sizeLine_eq]; omega, ?_⟩
            exact z φ _ _ (Le.put s e) (s.put e q h.2 ⟨_, upd_same, by rw [List.length_append, sizeLine_eq]; omega, RelL.mono (Le.put s e) (rr.append rw')⟩) (.ref e)
          · simp only [h, if_false] at z
            exact z.elim
  · exact z.elim
theorem osi_addA : OS X (inplaceOp .Add) gIAddA := OS.or osi_add os_ext fun x y S => by
  unfold gIAddA
  cases x <;> first | exact .inl rfl | exact .inr rfl
theorem os_catM : OS X (binaryOp .Add) gCatM := by
  refine ⟨_, op_cat, fun W σ φ H S x y vx vy Q s rx ry z => ?_⟩
  unfold gCatM at z
  cases q : x.lsts S with
  | none => simp only [q] at z; exact z.elim
  | some xs =>
    simp only [q] at z
    cases q2 : y.lsts S with
    | none => simp only [q2] at z; exact z.elim
    | some ys =>
      simp only [q2] at z
      by_cases h : xs.length + ys.length ≤ 16000000
      · simp only [h, if_true] at z
        obtain ⟨a, vs, rfl, ha, _, r1⟩ := rel_lsts s rx q
        obtain ⟨b, ws, rfl, hb, _, r2⟩ := rel_lsts s ry q2
        have hl : vs.length + ws.length ≤ 16000000 := by rw [← r1.length, ← r2.length]; exact h
        refine ⟨a, b, vs, ws, rfl, rfl, ha, hb, line_ge hl, fun p hp => ?_⟩
        exact z φ _ _ (Le.fresh hp) (s.laid hp) (.lst (by rw [List.length_append]; exact line_ge hl) upd_same (s.fresh hp) ((r1.append r2).laid hp))
      · simp only [h, if_false] at z
        exact z.elim
theorem os_addA : OS X (binaryOp .Add) gAddA := OS.or os_catM os_add fun x y S => by
  unfold gAddA
  cases x.lsts S with
  | none => exact .inr rfl
  | some p => exact .inl rfl
theorem dp_top {φ : Phi} {H : Hp} {S : Sto} {d : D} {v : V} (s : RS X.K φ H S) (r : Rel X.K φ H d v) (h : PyData.canLay0 (d.top S).toP = true) : Dp X.K H v (d.top S).toP := by
  rcases rel_top s r with ⟨a, vs, ds, e1, rfl, e3, e4, e5⟩ | e
  · rw [e1] at h ⊢
    exact .lst (SqL.of e3) (dps_of e5 (by simpa [D.toP, PyData.canLay0] using h))
  · rw [e] at h ⊢
    exact dp_of r h
theorem os_eqT (hu : X.A.units + 64 < cLine) : OS X (compareOp .Eq) gEqT := by
  refine ⟨_, op_eqD hu, fun W σ φ H S x y vx vy Q s rx ry z => ?_⟩
  unfold gEqT at z
  by_cases h : (SeqAt.shaped (x.top S).toP && SeqAt.shaped (y.top S).toP) = true
  · simp only [h, if_true] at z
    rw [Bool.and_eq_true] at h
    exact ⟨_, _, dp_top s rx (SeqAt.canLay_of_shaped h.1), dp_top s ry (SeqAt.canLay_of_shaped h.2), h.1, h.2, z φ H _ (Le.refl _ _) s (.bl _)⟩
  · simp only [h] at z
    exact z.elim
theorem os_neT (hu : X.A.units + 64 < cLine) : OS X (compareOp .NotEq) gNeT := by
  refine ⟨_, op_neD hu, fun W σ φ H S x y vx vy Q s rx ry z => ?_⟩
  unfold gNeT at z
  by_cases h : (SeqAt.shaped (x.top S).toP && SeqAt.shaped (y.top S).toP) = true
  · simp only [h, if_true] at z
    rw [Bool.and_eq_true] at h
    exact ⟨_, _, dp_top s rx (SeqAt.canLay_of_shaped h.1), dp_top s ry (SeqAt.canLay_of_shaped h.2), h.1, h.2, z φ H _ (Le.refl _ _) s (.bl _)⟩
  · simp only [h] at z
    exact z.elim
theorem os_eqA (hu : X.A.units + 64 < cLine) : OS X (compareOp .Eq) gEqA := OS.or (os_eqT hu) (os_eq hu) fun x y S => by
  unfold gEqA
  by_cases h : (x.isRef || y.isRef) = true
  · exact .inl (by simp [h])
  · exact .inr (by simp [h])
theorem os_neA (hu : X.A.units + 64 < cLine) : OS X (compareOp .NotEq) gNeA := OS.or (os_neT hu) (os_ne hu) fun x y S => by
  unfold gNeA
  by_cases h : (x.isRef || y.isRef) = true
  · exact .inl (by simp [h])
  · exact .inr (by simp [h])
end

/-! ### f'..' -/
def cFmt (c : C) : C := fun ρ S => (c ρ S).bind fun d S => match d with
  | .str y => if y.length ≤ 16000000 then .ok (.str y) S else .bad
  | .int i => if i.natAbs.log2 < 1920 then .ok (.str (toString i)) S else .bad
  | _ => .bad
def jsL : List C → Str → Ro → Sto → R Str
  | [], acc, _, S => .ok acc S
  | c :: cs, acc, ρ, S => (c ρ S).bind fun d S => match d with
    | .str y => if (acc ++ y).length ≤ 16000000 then jsL cs (acc ++ y) ρ S else .bad
    | _ => .bad
def cJs (cs : List C) : C := fun ρ S => (jsL cs Str.empty ρ S).bind fun out S => .ok (.str out) S
structure MJ (X : Cx) (W : WX) (es : List Expr) (cs : List C) : Prop where
  pj : PJ X es (cs.map (rdE X W))
section
variable {X : Cx} {W : WX} {e : Expr} {es : List Expr} {c : C} {cs : List C} {pos : Pos}
theorem mj_nil : MJ X W [] [] := ⟨.nil⟩
theorem mj_cons (h : ME X W e c) (r : MJ X W es cs) : MJ X W (e :: es) (c :: cs) := ⟨.cons h.pe r.pj⟩
theorem me_fmt (h : ME X W e c) : ME X W (.FormattedValue e (-1) none pos) (cFmt c) := by
  refine ⟨(pe_fmt h.pe).imp fun σ H Q h => ?_⟩
  obtain ⟨ρ, φ, S, hE, hs, h⟩ := h
  refine ⟨ρ, φ, S, hE, hs, h.step fun d S1 φ1 H1 v q l s r z => ?_⟩
  cases r <;> try exact z.elim
  · rename_i i
    by_cases hi : i.natAbs.log2 < 1920
    · simp only [hi, if_true] at z
      exact .inr ⟨i, rfl, hi, z φ1 H1 _ (Le.refl _ _) s (.str _)⟩
    · simp only [hi, if_false] at z; exact z.elim
  · rename_i y
    by_cases hi : y.length ≤ 16000000
    · simp only [hi, if_true] at z
      exact .inl ⟨y, rfl, line_ge hi, z φ1 H1 _ (Le.refl _ _) s (.str _)⟩
    · simp only [hi, if_false] at z; exact z.elim
theorem js_imp {σ : L2.St} {Q : Str → Hp → Prop} : ∀ (cs : List C) {acc : Str} {ρ : Ro} {φ : Phi} {H : Hp} {S : Sto}, RE X.K φ H ρ σ → RS X.K φ H S → Ok X.K X.mg (fun _ _ (a b : Str) => a = b) φ H (fun cls d H' => W cls d σ H') Q (jsL cs acc ρ S) → tJs (cs.map (rdE X W)) acc σ H Q
  | [], acc, ρ, φ, H, S, hE, hs, h => h φ H acc (Le.refl _ _) hs rfl
  | c :: cs, acc, ρ, φ, H, S, hE, hs, h => by
    unfold jsL at h
    refine ⟨ρ, φ, S, hE, hs, Ok.step h fun d S1 φ1 H1 v q l s r z => ?_⟩
    cases r <;> try exact z.elim
    rename_i y
    by_cases hi : (acc ++ y).length ≤ 16000000
    · simp only [hi, if_true] at z
      exact ⟨y, rfl, line_ge hi, js_imp cs (hE.mono l) s z⟩
    · simp only [hi, if_false] at z; exact z.elim
theorem me_js {e2 : Expr} {rest : List Expr} (h : MJ X W (e :: e2 :: rest) cs) : ME X W (.JoinedStr (e :: e2 :: rest) pos) (cJs cs) := by
  refine ⟨(pe_joined h.pj).imp fun σ H Q h => ?_⟩
  obtain ⟨ρ, φ, S, hE, hs, h⟩ := h
  refine js_imp cs hE hs (Ok.step (rel := fun _ _ (a b : Str) => a = b) h fun out S1 φ1 H1 v q l s r z => ?_)
  subst r
  exact z φ1 H1 _ (Le.refl _ _) s (.str _)
theorem me_js1 (h : ME X W e c) : ME X W (.JoinedStr [e] pos) c := ⟨(pe_joined1 h.pe)⟩
end

/-! ### len -/
def gLenD : List D → Sto → R D := fun ds S => match ds with
  | [x] => match x.dict S with
    | some (ks, _) => .ok (.int ks.length) S
    | none => .bad
  | _ => .bad
def gLenA : List D → Sto → R D := fun ds S => match ds with
  | [x] => match x.dict S with
    | some _ => gLenD ds S
    | none => gLen ds S
  | _ => .bad
section
variable {X : Cx}
theorem ks_lenD : KS X (.builtin "len") gLenD := by
  refine ⟨_, call_lenD, fun W σ φ H S ds vs Q s r z => ?_⟩
  unfold gLenD at z
  split at z
  · rename_i x
    obtain ⟨v, rfl, rx⟩ := relD1 r
    cases q : x.dict S with
    | none => simp only [q] at z; exact z.elim
    | some t =>
      obtain ⟨ks, ds⟩ := t
      simp only [q] at z
      obtain ⟨a, vs, rfl, e2, e3, e4⟩ := rel_dict s rx q
      refine ⟨a, _, rfl, e2, ?_⟩
      rw [List.length_zip, ← e3, Nat.min_self]
      exact z φ H _ (Le.refl _ _) s (.int _)
  · exact z.elim
theorem ks_lenA : KS X (.builtin "len") gLenA := KS.or ks_lenD ks_len fun ds S => by
  unfold gLenA
  split
  · rename_i x
    cases x.dict S with
    | none => exact .inr rfl
    | some t => exact .inl rfl
  · rename_i h
    refine .inl ?_
    unfold gLenD
    split
    · exact absurd rfl (h _)
    · rfl
end
end MP

/-! MP: constants of the module: tuples, dicts with text keys. -/
namespace MP
open PySem PySem.Spec PyProof.Rows L2

def mapP {α β : Type} (f : α → Option β) : List α → Option (List β)
  | [] => some []
  | x :: xs => match f x with
    | some y => match mapP f xs with
      | some ys => some (y :: ys)
      | none => none
    | none => none
/-- a value of the written part as a tree -/
def kD (K : PySem.W.Frag) : Nat → Value → Option D
  | 0, _ => none
  | n + 1, v => match v with
    | .none => some .non
    | .bool b => some (.bl b)
    | .int i _ => some (.int i)
    | .str x _ => some (.str x)
    | .ref a => match K.lookup a with
      | some ⟨.type "tuple", _, .seq its _, _⟩ => if its.size ≤ 16000000 then match mapP (kD K n) its.toList with
        | some ds => some (.tup ds)
        | none => none
        else none
      | _ => none
    | _ => none
theorem mapP_kD {K : PySem.W.Frag} {n : Nat} (ih : ∀ {u : Value} {d : D}, kD K n u = some d → ∃ v, RelV v u ∧ ∀ φ H, Rel K φ H d v) : ∀ {us : List Value} {ds : List D}, mapP (kD K n) us = some ds → ∃ vs, Vals vs us ∧ ∀ φ H, RelL K φ H ds vs
  | [], ds, h => by
    simp only [mapP, Option.some.injEq] at h
    subst h
    exact ⟨[], .nil, fun _ _ => .nil⟩
  | u :: us, ds, h => by
    unfold mapP at h
    cases q : kD K n u with
    | none => simp [q] at h
    | some d =>
      simp only [q] at h
      cases q2 : mapP (kD K n) us with
      | none => simp [q2] at h
      | some es =>
        simp only [q2, Option.some.injEq] at h
        subst h
        obtain ⟨v, h1, h2⟩ := ih q
        obtain ⟨vs, h3, h4⟩ := mapP_kD ih q2
        exact ⟨v :: vs, .cons h1 h3, fun φ H => .cons (h2 φ H) (h4 φ H)⟩
theorem kD_rel {K : PySem.W.Frag} : ∀ (n : Nat) {u : Value} {d : D}, kD K n u = some d → ∃ v, RelV v u ∧ ∀ φ H, Rel K φ H d v
  | 0, _, _, h => by cases h
  | n + 1, u, d, h => by
    unfold kD at h
    split at h
    · cases h; exact ⟨.non, rfl, fun _ _ => .non⟩
    · cases h; exact ⟨.bl _, rfl, fun _ _ => .bl _⟩
    · cases h; exact ⟨.int _, ⟨_, rfl⟩, fun _ _ => .int _⟩
    · cases h; exact ⟨.str _, ⟨_, rfl⟩, fun _ _ => .str _⟩
    · rename_i a
      split at h
      · rename_i o dd its k sl hl
        by_cases hz : its.size ≤ 16000000
        · simp only [hz, if_true] at h
          cases q : mapP (kD K n) its.toList with
          | none => simp [q] at h
          | some ds =>
            simp only [q, Option.some.injEq] at h
            subst h
            obtain ⟨vs, h1, h2⟩ := mapP_kD (fun h => kD_rel n h) q
            have hs : its.size ≤ sizeLine := by rw [sizeLine_eq]; omega
            have hlen : vs.length ≤ sizeLine := by
              rw [h1.length, Array.length_toList]; exact hs
            exact ⟨.ref a, rfl, fun φ H => .tup hlen (.inr (.inr ⟨_, its, _, hl, rfl, rfl, hs, h1⟩)) (h2 φ H)⟩
        · simp [hz] at h
      · cases h
    · cases h
/-- a constant that is a tree -/
def ConOk (K : PySem.W.Frag) (mg : Str → Option Value) (x : Str) (d : D) : Prop := ∃ u v, mg x = some u ∧ RelV v u ∧ ∀ φ H, Rel K φ H d v
theorem con_of {K : PySem.W.Frag} {mg : Str → Option Value} {x : Str} {u : Value} {d : D} {n : Nat} (hm : mg x = some u) (h : kD K n u = some d) : ConOk K mg x d :=
  let ⟨v, h1, h2⟩ := kD_rel n h
  ⟨u, v, hm, h1, h2⟩
theorem me_con {X : Cx} {W : WX} {x : Str} {pos : Pos} {d : D} (h : ConOk X.K X.mg x d) (hg : Gl X x) (hd : (x == ("__debug__" : Str)) = false := by decide) : ME X W (.Name x pos) (cK d) := by
  obtain ⟨u, v, h1, h2, h3⟩ := h
  exact me_glob hg h1 h2 h3 hd

/-! ### dicts with text keys -/
def tabD (K : PySem.W.Frag) (n : Nat) : List DictEntry → Option (List (Str × D))
  | [] => some []
  | e :: es => match e.key with
    | .str x _ => match kD K n e.val with
      | some d => match tabD K n es with
        | some r => some ((x, d) :: r)
        | none => none
      | none => none
    | _ => none
def kTab (K : PySem.W.Frag) (n : Nat) (a : Addr) : Option (List (Str × D)) := match K.lookup a with
  | some ⟨.type "dict", none, .dict es _, #[]⟩ => if a == sysModules then none else tabD K n es.toList
  | _ => none
structure TabOk (K : PySem.W.Frag) (w : World) (mg : Str → Option Value) (x : Str) (t : List (Str × D)) : Prop where
  ex : ∃ a es n k, mg x = some (.ref a) ∧ K.lookup a = some ⟨.type "dict", none, .dict es n, #[]⟩ ∧ (a == sysModules) = false ∧ PySem.W.KeysLit w.params es.toList ∧ tabD K k es.toList = some t
/-- the hashes of the entries, as told -/
def hashesD : List DictEntry → List Int := List.map (·.hash)
def hashesT (P : Params) (t : List (Str × D)) : List Int := t.map fun p => PyData.keyHash P p.1
theorem keysLit_tab {K : PySem.W.Frag} {P : Params} {n : Nat} : ∀ {es : List DictEntry} {t : List (Str × D)}, tabD K n es = some t → hashesD es = hashesT P t → PySem.W.KeysLit P es
  | [], _, _, _ => trivial
  | e :: es, t, h, q => by
    unfold tabD at h
    split at h
    · rename_i x tk hk
      cases q1 : kD K n e.val with
      | none => simp [q1] at h
      | some d =>
        simp only [q1] at h
        cases q2 : tabD K n es with
        | none => simp [q2] at h
        | some r =>
          simp only [q2, Option.some.injEq] at h
          subst h
          simp only [hashesD, hashesT, List.map_cons, List.cons.injEq] at q
          exact ⟨⟨x, tk, hk, q.1⟩, keysLit_tab q2 q.2⟩
    · cases h
theorem tab_of {K : PySem.W.Frag} {w : World} {mg : Str → Option Value} {x : Str} {a : Addr} {es : Array DictEntry} {n k : Nat} {t : List (Str × D)} (hm : mg x = some (.ref a)) (hl : K.lookup a = some ⟨.type "dict", none, .dict es n, #[]⟩) (hs : (a == sysModules) = false)
    (ht : tabD K k es.toList = some t) (hh : hashesD es.toList = hashesT w.params t) : TabOk K w mg x t := ⟨a, es, n, k, hm, hl, hs, keysLit_tab ht hh, ht⟩
def tabGet (t : List (Str × D)) (x : Str) : Option D := match t with
  | [] => none
  | (y, d) :: r => if y = x then some d else tabGet r x
theorem tab_find {K : PySem.W.Frag} {k : Nat} {x : Str} : ∀ {es : List DictEntry} {t : List (Str × D)}, tabD K k es = some t →
    (match tabGet t x with
      | some d => ∃ e v, es.find? (·.key.isStr x) = some e ∧ RelV v e.val ∧ ∀ φ H, Rel K φ H d v
      | none => es.find? (·.key.isStr x) = none ∧ es.any (·.refKey) = false)
  | [], t, h => by
    simp only [tabD, Option.some.injEq] at h
    subst h
    exact ⟨rfl, rfl⟩
  | e :: es, t, h => by
    unfold tabD at h
    split at h
    · rename_i y tk hk
      cases q1 : kD K k e.val with
      | none => simp [q1] at h
      | some d =>
        simp only [q1] at h
        cases q2 : tabD K k es with
        | none => simp [q2] at h
        | some r =>
          simp only [q2, Option.some.injEq] at h
          subst h
          have ih := tab_find (x := x) q2
          have hks : e.key.isStr x = decide (y = x) := by
            rw [hk]
            show (y == x) = decide (y = x)
            by_cases z : y = x <;> simp [z]
          unfold tabGet
          by_cases z : y = x
          · simp only [z, if_true]
            obtain ⟨v, h1, h2⟩ := kD_rel k q1
            exact ⟨e, v, by rw [List.find?_cons, hks]; simp [z], h1, h2⟩
          · simp only [z, if_false]
            have hf : (e :: es).find? (·.key.isStr x) = es.find? (·.key.isStr x) := by rw [List.find?_cons, hks]; simp [z]
            rw [hf]
            cases q3 : tabGet r x with
            | none =>
              rw [q3] at ih
              refine ⟨ih.1, ?_⟩
              rw [List.any_cons, ih.2]
              show (DictEntry.refKey e || false) = false
              unfold DictEntry.refKey
              rw [hk]; rfl
            | some d' =>
              rw [q3] at ih
              exact ih
    · cases h
def cTget (t : List (Str × D)) (c : C) : C := fun ρ S => (c ρ S).bind fun d S => match d with
  | .str x => match tabGet t x with
    | some v => .ok v S
    | none => .bad
  | _ => .bad
def cTin (t : List (Str × D)) (c : C) : C := fun ρ S => (c ρ S).bind fun d S => match d with
  | .str x => .ok (.bl (tabGet t x).isSome) S
  | _ => .bad
def cTnotIn (t : List (Str × D)) (c : C) : C := fun ρ S => (c ρ S).bind fun d S => match d with
  | .str x => .ok (.bl (!(tabGet t x).isSome)) S
  | _ => .bad
def cTg1 (t : List (Str × D)) (c : C) : C := fun ρ S => (c ρ S).bind fun d S => match d with
  | .str x => .ok ((tabGet t x).getD .non) S
  | _ => .bad
def cTg2 (t : List (Str × D)) (c e : C) : C := fun ρ S => (c ρ S).bind fun d S => (e ρ S).bind fun y S => match d with
  | .str x => .ok ((tabGet t x).getD y) S
  | _ => .bad
section
variable {X : Cx} {W : WX} {x : Str} {e f : Expr} {ce cf : C} {p pos apos cpos : Pos} {t : List (Str × D)}
theorem nsIn_tab {K : PySem.W.Frag} {a : Addr} {es : Array DictEntry} {n k : Nat} {t : List (Str × D)} (hl : K.lookup a = some ⟨.type "dict", none, .dict es n, #[]⟩) (ht : tabD K k es.toList = some t) (z : Str) :
    match tabGet t z with
    | some d => ∃ u v, PySem.W.nsIn K a z = some (some u) ∧ RelV v u ∧ ∀ φ H, Rel K φ H d v
    | none => PySem.W.nsIn K a z = some none := by
  have q := tab_find (x := z) ht
  cases h : tabGet t z with
  | none =>
    rw [h] at q
    unfold PySem.W.nsIn
    rw [hl]
    dsimp only
    rw [q.1]
    dsimp only
    rw [q.2]
    rfl
  | some d =>
    rw [h] at q
    obtain ⟨en, v, h1, h2, h3⟩ := q
    refine ⟨en.val, v, ?_, h2, h3⟩
    unfold PySem.W.nsIn
    rw [hl]
    dsimp only
    rw [h1]
theorem me_tget (T : TabOk X.K X.w X.mg x t) (hg : Gl X x) (he : ME X W e ce) (hd : (x == ("__debug__" : Str)) = false := by decide) (hs : PlainIx e := by exact fun _ _ => rfl) : ME X W (.Subscript (.Name x p) e pos) (cTget t ce) := by
  obtain ⟨a, es, n, k, hm, hl, low, lit, ht⟩ := T.ex
  refine ⟨(pe_ix ix_kdict (pe_glob (v := .ref a) hg hm rfl hd) he.pe hs).imp fun σ H Q h => ?_⟩
  obtain ⟨ρ, φ, S, hE, hS, h⟩ := h
  refine ⟨ρ, φ, S, hE, hS, h.step fun d S1 φ1 H1 v q l s r z => ?_⟩
  cases r <;> try exact z.elim
  rename_i y
  have nt := nsIn_tab hl ht y
  cases q2 : tabGet t y with
  | none => simp only [q2] at z; exact z.elim
  | some d =>
    rw [q2] at nt
    simp only [q2] at z
    obtain ⟨u, v, h1, h2, h3⟩ := nt
    exact ⟨a, y, v, rfl, rfl, ⟨es, n, u, hl, lit, h1, h2⟩, z φ1 H1 v (Le.refl _ _) s (h3 _ _)⟩
theorem tin_imp {a : Addr} {es : Array DictEntry} {n k : Nat} {neg : Bool} (hl : X.K.lookup a = some ⟨.type "dict", none, .dict es n, #[]⟩) (ht : tabD X.K k es.toList = some t) {σ : L2.St} {H : Hp} {Q : VK}
    (h : rdE X W (fun ρ S => (ce ρ S).bind fun d S => match d with
      | .str x => .ok (.bl (neg ^^ (tabGet t x).isSome)) S
      | _ => .bad) σ H Q) : rdE X W ce σ H fun x H1 => ∃ (z : Str) (r : Option Value), x = .str z ∧ (V.ref a) = .ref a ∧ PySem.W.nsIn X.K a z = some r ∧ Q (.bl (neg ^^ r.isSome)) H1 := by
  obtain ⟨ρ, φ, S, hE, hS, h⟩ := h
  refine ⟨ρ, φ, S, hE, hS, h.step fun d S1 φ1 H1 v q l s r z => ?_⟩
  cases r <;> try exact z.elim
  rename_i y
  have nt := nsIn_tab hl ht y
  cases q2 : tabGet t y with
  | none =>
    rw [q2] at nt
    simp only [q2] at z
    exact ⟨y, none, rfl, rfl, nt, z φ1 H1 _ (Le.refl _ _) s (.bl _)⟩
  | some d =>
    rw [q2] at nt
    simp only [q2] at z
    obtain ⟨u, v, h1, h2, h3⟩ := nt
    exact ⟨y, some u, rfl, rfl, h1, z φ1 H1 _ (Le.refl _ _) s (.bl _)⟩
theorem cTin_eq : cTin t ce = fun ρ S => (ce ρ S).bind fun d S => match d with
      | .str x => .ok (.bl (false ^^ (tabGet t x).isSome)) S
      | _ => .bad := by
  funext ρ S
  simp [cTin]
theorem cTnotIn_eq : cTnotIn t ce = fun ρ S => (ce ρ S).bind fun d S => match d with
      | .str x => .ok (.bl (true ^^ (tabGet t x).isSome)) S
      | _ => .bad := by
  funext ρ S
  simp [cTnotIn]
theorem me_tin (T : TabOk X.K X.w X.mg x t) (hg : Gl X x) (he : ME X W e ce) (hm2 : behindInMarks .In (.Name x p) = false := by rfl) (hd : (x == ("__debug__" : Str)) = false := by decide) : ME X W (.Compare e [.In] [.Name x p] pos) (cTin t ce) := by
  obtain ⟨a, es, n, k, hm, hl, low, lit, ht⟩ := T.ex
  refine ⟨(pe_cmpR (op_in_kd ⟨hl, lit, low⟩) he.pe (pe_glob (v := .ref a) hg hm rfl hd) hm2).imp fun σ H Q h => ?_⟩
  rw [cTin_eq] at h
  have := tin_imp hl ht h
  simpa [tOp, tC] using this
theorem me_tnotIn (T : TabOk X.K X.w X.mg x t) (hg : Gl X x) (he : ME X W e ce) (hm2 : behindInMarks .NotIn (.Name x p) = false := by rfl) (hd : (x == ("__debug__" : Str)) = false := by decide) : ME X W (.Compare e [.NotIn] [.Name x p] pos) (cTnotIn t ce) := by
  obtain ⟨a, es, n, k, hm, hl, low, lit, ht⟩ := T.ex
  refine ⟨(pe_cmpR (op_notIn_kd ⟨hl, lit, low⟩) he.pe (pe_glob (v := .ref a) hg hm rfl hd) hm2).imp fun σ H Q h => ?_⟩
  rw [cTnotIn_eq] at h
  have := tin_imp hl ht h
  simpa [tOp, tC] using this
theorem mt_tin (T : TabOk X.K X.w X.mg x t) (hg : Gl X x) (he : ME X W e ce) (hm2 : behindInMarks .In (.Name x p) = false := by rfl) (hd : (x == ("__debug__" : Str)) = false := by decide) : MT X W (.Compare e [.In] [.Name x p] pos) (cTB (cTin t ce)) := by
  obtain ⟨a, es, n, k, hm, hl, low, lit, ht⟩ := T.ex
  refine ⟨(pt_cmpR (op_in_kd ⟨hl, lit, low⟩) he.pe (pe_glob (v := .ref a) hg hm rfl hd) hm2).imp fun σ H Q h => ?_⟩
  have h := rdT_of (t := cTB (cTin t ce)) h
  rw [cTin_eq] at h
  have := tin_imp hl ht h
  simpa [tTest, tOp, tC] using this
theorem mt_tnotIn (T : TabOk X.K X.w X.mg x t) (hg : Gl X x) (he : ME X W e ce) (hm2 : behindInMarks .NotIn (.Name x p) = false := by rfl) (hd : (x == ("__debug__" : Str)) = false := by decide) : MT X W (.Compare e [.NotIn] [.Name x p] pos) (cTB (cTnotIn t ce)) := by
  obtain ⟨a, es, n, k, hm, hl, low, lit, ht⟩ := T.ex
  refine ⟨(pt_cmpR (op_notIn_kd ⟨hl, lit, low⟩) he.pe (pe_glob (v := .ref a) hg hm rfl hd) hm2).imp fun σ H Q h => ?_⟩
  have h := rdT_of (t := cTB (cTnotIn t ce)) h
  rw [cTnotIn_eq] at h
  have := tin_imp hl ht h
  simpa [tTest, tOp, tC] using this
/-- x.get(e), x.get(e, f) of a module's dict -/
theorem tg_at {a : Addr} {es : Array DictEntry} {n : Nat} {pins : List (Addr × Obj)} {σ : L2.St} {H : Hp} {s : Shared} (I : Inv X pins σ H s) (hl : X.K.lookup a = some ⟨.type "dict", none, .dict es n, #[]⟩) (lit : PySem.W.KeysLit X.w.params es.toList) :
    s.TypeIs (.ref a) "dict" ∧ (∀ b, Value.ref a = .ref b → ∃ ob, s.heap.get? b = some ob ∧ ob.dict = none) :=
  ⟨(PySem.W.mapOf_K (prog := X.prog) (w := X.w) I.kIn hl lit).typeIs, fun b q => by cases q; exact ⟨_, I.kIn _ _ hl, rfl⟩⟩
theorem me_tg1 (T : TabOk X.K X.w X.mg x t) (hg : Gl X x) (he : ME X W e ce) (hd : (x == ("__debug__" : Str)) = false := by decide) (m : M1 X (.Name x p) "get" apos e cpos := by exact ⟨rfl, rfl, rfl, rfl⟩) : ME X W (.Call (.Attribute (.Name x p) "get" apos) [e] [] cpos) (cTg1 t ce) := by
  obtain ⟨a, es, n, k, hm, hl, low, lit, ht⟩ := T.ex
  refine ⟨⟨fun pins s σ H Q I h => ?_⟩⟩
  refine wpAny_Call_method m.base m.few m.line PySem.F.plainAttrs_dict PySem.F.slot_dict_get PySem.F.type_dict_get (ld_glob I hg hm ?_ hd)
  obtain ⟨t1, t2⟩ := tg_at I hl lit
  refine ⟨t1, t2, ?_⟩
  rw [m.trees]
  obtain ⟨ρ, φ, S, hE, hS, h⟩ := h
  have rd : rdE X W ce σ H fun y H2 => ∃ z, y = .str z ∧ ∃ r, PySem.W.nsIn X.K a z = some r ∧ ∀ w', (∀ u, r = some u → w' = u) → (r = none → w' = .none) → ∃ v, RelV v w' ∧ Q v H2 := by
    refine ⟨ρ, φ, S, hE, hS, Ok.step h fun d S1 φ1 H1 v q l s r z => ?_⟩
    cases r <;> try exact z.elim
    rename_i y
    have nt := nsIn_tab hl ht y
    cases q2 : tabGet t y with
    | none =>
      rw [q2] at nt
      simp only [q2] at z
      refine ⟨y, rfl, none, nt, fun w' _ h2 => ⟨.non, ?_, z φ1 H1 _ (Le.refl _ _) s .non⟩⟩
      rw [h2 rfl]; rfl
    | some d =>
      rw [q2] at nt
      simp only [q2] at z
      obtain ⟨u, v, h1, h2, h3⟩ := nt
      refine ⟨y, rfl, some u, h1, fun w' h4 _ => ⟨v, ?_, z φ1 H1 v (Le.refl _ _) s (h3 _ _)⟩⟩
      rw [h4 u rfl]; exact h2
  refine Calls.callWith_builtin rfl (Calls.evalArgs_plain (Calls.spliced_cons (thn (he.pe.run pins s σ H _ I rd) fun iv s2 ⟨y, H2, I2, ry, z, ey, r, hr, q2⟩ => Calls.spliced_nil ?_)))
  subst ey
  obtain ⟨tk, rfl⟩ := ry
  have hmap := PySem.W.mapOf_K (prog := X.prog) (w := X.w) I2.kIn hl lit
  refine call_meetsIn PySem.F.slot_dict_get hmap.typeIs PySem.F.entry_dict_get (PySem.F.args_dict_get_2 _ _) (meets_dict_get (strKind X.prog X.w) a (strKind_is X.prog X.w z tk) low) ⟨_, hmap, ?_⟩
  rw [PySem.W.find_K hl hr]
  obtain ⟨v, hv, hq⟩ := q2 (r.getD .none) (fun u e => by rw [e]; rfl) (fun e => by rw [e]; rfl)
  exact ⟨v, H2, I2.tok _, hv, hq⟩
theorem me_tg2 (T : TabOk X.K X.w X.mg x t) (hg : Gl X x) (he : ME X W e ce) (hf : ME X W f cf) (hd : (x == ("__debug__" : Str)) = false := by decide) (m : M2 X (.Name x p) "get" apos e f cpos := by exact ⟨rfl, rfl, rfl, rfl⟩) : ME X W (.Call (.Attribute (.Name x p) "get" apos) [e, f] [] cpos) (cTg2 t ce cf) := by
  obtain ⟨a, es, n, k, hm, hl, low, lit, ht⟩ := T.ex
  refine ⟨⟨fun pins s σ H Q I h => ?_⟩⟩
  refine wpAny_Call_method m.base m.few m.line PySem.F.plainAttrs_dict PySem.F.slot_dict_get PySem.F.type_dict_get (ld_glob I hg hm ?_ hd)
  obtain ⟨t1, t2⟩ := tg_at I hl lit
  refine ⟨t1, t2, ?_⟩
  rw [m.trees]
  obtain ⟨ρ, φ, S, hE, hS, h⟩ := h
  have rd : rdE X W ce σ H fun y H2 => rdE X W cf σ H2 fun g H3 => ∃ z, y = .str z ∧ ∃ r, PySem.W.nsIn X.K a z = some r ∧ (∀ u, r = some u → ∃ v, RelV v u ∧ Q v H3) ∧ (r = none → Q g H3) := by
    refine ⟨ρ, φ, S, hE, hS, Ok.step h fun d S1 φ1 H1 v q l s r z => ⟨ρ, φ1, S1, hE.mono l, s, Ok.step z fun g S2 φ2 H2 vg q5 l2 s2 rg z => ?_⟩⟩
    cases r <;> try exact z.elim
    rename_i y _
    have nt := nsIn_tab hl ht y
    cases q2 : tabGet t y with
    | none =>
      rw [q2] at nt
      simp only [q2] at z
      exact ⟨y, rfl, none, nt, (fun u e => by cases e), (fun _ => z φ2 H2 _ (Le.refl _ _) s2 rg)⟩
    | some d =>
      rw [q2] at nt
      simp only [q2] at z
      obtain ⟨u, v, h1, h2, h3⟩ := nt
      exact ⟨y, rfl, some u, h1, (fun u' e => by cases e; exact ⟨v, h2, z φ2 H2 v (Le.refl _ _) s2 (h3 _ _)⟩), (fun e => by cases e)⟩
  refine Calls.callWith_builtin rfl (Calls.evalArgs_plain (Calls.spliced_cons (thn (he.pe.run pins s σ H _ I rd) fun iv s2 ⟨y, H2, I2, ry, q1⟩ => Calls.spliced_cons (thn (hf.pe.run pins s2 σ H2 _ I2 q1) fun fv s3 ⟨g, H3, I3, rg, z, ey, r, hr, q3, q4⟩ => Calls.spliced_nil ?_))))
  subst ey
  obtain ⟨tk, rfl⟩ := ry
  have hmap := PySem.W.mapOf_K (prog := X.prog) (w := X.w) I3.kIn hl lit
  refine call_meetsIn PySem.F.slot_dict_get hmap.typeIs PySem.F.entry_dict_get (PySem.F.args_dict_get_3 _ _ _) (meets_dict_get_default (strKind X.prog X.w) a (strKind_is X.prog X.w z tk) low fv) ⟨_, hmap, ?_⟩
  rw [PySem.W.find_K hl hr]
  cases r with
  | none => exact ⟨g, H3, I3.tok _, rg, q4 rfl⟩
  | some u =>
    obtain ⟨v, hv, hq⟩ := q3 u rfl
    exact ⟨v, H3, I3.tok _, hv, hq⟩
end
end MP

/-! MP: more that can be walked. -/
namespace MP
open PySem PySem.Spec PyProof.Rows L2
theorem _root_.L2.PI.or {X : Cx} {tg iter : Expr} {t u : TI} (h : PI X tg iter t) (k : PI X tg iter u) : PI X tg iter (fun σ H Q => t σ H Q ∨ u σ H Q) := ⟨fun pins s σ H Q I z => z.elim (h.run pins s σ H Q I) (k.run pins s σ H Q I)⟩
section
variable {X : Cx} {W : WX} {tg e a b c : Expr} {ce : C} {ca : CA} {p pos : Pos}
theorem MI.or {c1 c2 c : CI} (h1 : MI X W tg e c1) (h2 : MI X W tg e c2) (k : ∀ ρ S, c ρ S = c1 ρ S ∨ c ρ S = c2 ρ S) : MI X W tg e c := ⟨(h1.pi.or h2.pi).imp fun σ H Q h => by
  obtain ⟨ρ, φ, S, he, hs, h⟩ := h
  rcases k ρ S with q | q
  · exact .inl ⟨ρ, φ, S, he, hs, by rw [← q]; exact h⟩
  · exact .inr ⟨ρ, φ, S, he, hs, by rw [← q]; exact h⟩⟩
/-- the signs of a text -/
def signsD (x : Str) : List D := x.cps.toList.map fun c => D.str ⟨#[c]⟩
def ciStr (c : C) : CI := fun ρ S => (c ρ S).bind fun d S => match d with
  | .str x => .ok (signsD x) S
  | _ => .bad
/-- a list, a tuple, a text -/
def ciIt (c : C) : CI := fun ρ S => (c ρ S).bind fun d S => match d with
  | .tup ds => .ok ds S
  | .lst ds => .ok ds S
  | .rol ds => .ok ds S
  | .str x => .ok (signsD x) S
  | _ => .bad
theorem ir_str {K : PySem.W.Frag} {φ : Phi} {H : Hp} (x : Str) : IR K φ H (signsD x) (Its x) where
  go := fun φ' H' e i hi => by
    simp only [signsD, List.length_map, Array.length_toList] at hi
    exact hi
  yld := fun φ' H' S' e s i d y H'' hd yy => by
    obtain ⟨e1, c, hc, e2⟩ := yy
    subst e1 e2
    have : d = .str ⟨#[c]⟩ := by
      simp only [signsD, List.getElem?_map, Array.getElem?_toList, hc, Option.map_some, Option.some.injEq] at hd
      exact hd.symm
    subst this
    exact ⟨Le.refl _ _, s, .str _⟩
  stop := fun φ' H' e => by
    show x.cps.size ≤ (signsD x).length
    simp [signsD]
theorem mi_str (he : ME X W e ce) : MI X W tg e (ciStr ce) := by
  refine ⟨(pi_str he.pe).imp fun σ H Q h => ?_⟩
  obtain ⟨ρ, φ, S, hE, hs, h⟩ := h
  refine ⟨ρ, φ, S, hE, hs, h.step fun d S1 φ1 H1 v q l s r z => ?_⟩
  cases r <;> try exact z.elim
  rename_i x
  exact ⟨x, rfl, z φ1 H1 _ (Le.refl _ _) s (ir_str x)⟩
theorem mi_it (he : ME X W e ce) : MI X W tg e (ciIt ce) := .or (mi_seq he) (mi_str he) fun ρ S => by
  unfold ciIt ciSeq ciStr
  cases ce ρ S with
  | err x S => exact .inl rfl
  | bad => exact .inl rfl
  | ok d S1 =>
    simp only [R.bind_ok]
    cases d <;> first | exact .inl rfl | exact .inr rfl
/-- a list from its end -/
def ciRev (a : CA) : CI := fun ρ S => (a ρ S).bind fun ds S => match ds with
  | [.lst xs] => .ok xs.reverse S
  | [.rol xs] => .ok xs.reverse S
  | _ => .bad
theorem ir_rev {K : PySem.W.Frag} {φ : Phi} {H : Hp} {p : Addr} {ds : List D} {vs : List V} (h : FR K φ H p vs) (r : RelL K φ H ds vs) : IR K φ H ds.reverse (Itv K p vs.length) where
  go := fun φ' H' e i hi => by
    rw [List.length_reverse, r.length] at hi
    refine ⟨hi, vs, vs[vs.length - 1 - i]'(by omega), (h.later e).sq, by simp⟩
  yld := fun φ' H' S' e s i d x H'' hd y => by
    obtain ⟨e1, y⟩ := y
    subst e1
    have hi := (List.getElem?_eq_some_iff.mp hd).1
    rw [List.length_reverse] at hi
    rw [List.getElem?_reverse hi] at hd
    obtain ⟨v, hv, rv⟩ := r.get hd
    have := y vs (h.later e).sq
    rw [← r.length] at this
    rw [hv] at this
    cases this
    exact ⟨Le.refl _ _, s, rv.mono e⟩
  stop := fun φ' H' e => by
    show vs.length ≤ ds.reverse.length
    rw [List.length_reverse, r.length]
    exact Nat.le_refl _
theorem mi_rev (hg : Gl X "reversed") (hm : X.mg "reversed" = none) (ha : MA X W [a] ca) (hs : starEach [a] X.env = [(false, eval a X.env)] := by rfl) : MI X W tg (.Call (.Name "reversed" p) [a] [] pos) (ciRev ca) := by
  refine ⟨(pi_reversed hg hm ha.pa hs).imp fun σ H Q h => ?_⟩
  obtain ⟨ρ, φ, S, hE, hs, h⟩ := h
  refine ⟨ρ, φ, S, hE, hs, h.step fun ds S1 φ1 H1 vs q l s r z => ?_⟩
  split at z
  · rename_i xs
    obtain ⟨v, rfl, r1⟩ := relD1 r
    cases r1
    rename_i p vs zz f w rr
    exact ⟨p, vs, rfl, SqL.of f, z φ1 H1 _ (Le.refl _ _) s (ir_rev (.inl ⟨.inl f, w⟩) rr)⟩
  · rename_i xs
    obtain ⟨v, rfl, r1⟩ := relD1 r
    cases r1
    rename_i p vs zz f rr
    exact ⟨p, vs, rfl, f.sq, z φ1 H1 _ (Le.refl _ _) s (ir_rev f rr)⟩
  · exact z.elim
/-- with their places -/
def enumD : List D → Nat → List D
  | [], _ => []
  | d :: ds, i => .tup [.int (i : Int), d] :: enumD ds (i + 1)
theorem enumD_len : ∀ (ds : List D) (i : Nat), (enumD ds i).length = ds.length
  | [], _ => rfl
  | d :: ds, i => by simp [enumD, enumD_len ds]
theorem enumD_get : ∀ {ds : List D} {i j : Nat} {d : D}, (enumD ds i)[j]? = some d → ∃ x, ds[j]? = some x ∧ d = .tup [.int ((i + j : Nat) : Int), x]
  | [], _, _, _, h => by simp [enumD] at h
  | x :: ds, i, 0, d, h => by
    simp only [enumD, List.getElem?_cons_zero, Option.some.injEq] at h
    exact ⟨x, rfl, by rw [← h]; rfl⟩
  | x :: ds, i, j + 1, d, h => by
    simp only [enumD, List.getElem?_cons_succ] at h
    obtain ⟨y, h1, h2⟩ := enumD_get h
    exact ⟨y, by simpa using h1, by rw [h2]; congr 4; omega⟩
def ciEnum (a : CA) : CI := fun ρ S => (a ρ S).bind fun ds S => match ds with
  | [.lst xs] => .ok (enumD xs 0) S
  | [.rol xs] => .ok (enumD xs 0) S
  | _ => .bad
theorem two_line {a b : V} : [a, b].length ≤ sizeLine := by show 2 ≤ sizeLine; rw [sizeLine_eq]; omega
theorem ir_enum {K : PySem.W.Frag} {φ : Phi} {H : Hp} {p : Addr} {ds : List D} {vs : List V} (h : FR K φ H p vs) (r : RelL K φ H ds vs) : IR K φ H (enumD ds 0) (Ite K p) where
  go := fun φ' H' e i hi => by
    rw [enumD_len, r.length] at hi
    exact ⟨vs, vs[i], (h.later e).sq, by simp [hi]⟩
  yld := fun φ' H' S' e s i d x H'' hd y => by
    obtain ⟨T, w, e1, e2, e3, y⟩ := y
    subst e1 e3
    obtain ⟨z, hz, rfl⟩ := enumD_get hd
    obtain ⟨v, hv, rv⟩ := r.get hz
    have := y vs (h.later e).sq
    rw [hv] at this
    cases this
    refine ⟨Le.fresh e2, s.laid e2, .tup two_line (.inl ⟨.inl upd_same, s.fresh e2⟩) (.cons ?_ (.cons ((rv.mono e).laid e2) .nil))⟩
    rw [Nat.zero_add]
    exact .int _
  stop := fun φ' H' e => ⟨vs, (h.later e).sq, by rw [enumD_len, r.length]; exact Nat.le_refl _⟩
theorem mi_enum {elts : List Expr} {kk : Nat} {tpos : Pos} (hg : Gl X "enumerate") (hm : X.mg "enumerate" = none) (ha : MA X W [a] ca) (hs : starEach [a] X.env = [(false, eval a X.env)] := by rfl) : MI X W (.Tuple elts kk tpos) (.Call (.Name "enumerate" p) [a] [] pos) (ciEnum ca) := by
  refine ⟨(pi_enum hg hm ha.pa hs).imp fun σ H Q h => ?_⟩
  obtain ⟨ρ, φ, S, hE, hs, h⟩ := h
  refine ⟨ρ, φ, S, hE, hs, h.step fun ds S1 φ1 H1 vs q l s r z => ?_⟩
  split at z
  · rename_i xs
    obtain ⟨v, rfl, r1⟩ := relD1 r
    cases r1
    rename_i p vs zz f w rr
    exact ⟨p, vs, rfl, SqL.of f, z φ1 H1 _ (Le.refl _ _) s (ir_enum (.inl ⟨.inl f, w⟩) rr)⟩
  · rename_i xs
    obtain ⟨v, rfl, r1⟩ := relD1 r
    cases r1
    rename_i p vs zz f rr
    exact ⟨p, vs, rfl, f.sq, z φ1 H1 _ (Le.refl _ _) s (ir_enum f rr)⟩
  · exact z.elim
end

/-! ### for over a changeable list -/
/-- item by item, as the list stands at each turn -/
def forI (l n : Nat) (t : Tg) (body : CS) : Nat → Nat → CS
  | 0, _, _, _ => .bad
  | k + 1, i, ρ, S => match look S l n with
    | some (.lst xs) => match xs[i]? with
      | some d => tgR t d ρ fun ρ1 => match body ρ1 S with
        | .nx ρ2 S2 => forI l n t body k (i + 1) ρ2 S2
        | .cnt ρ2 S2 => forI l n t body k (i + 1) ρ2 S2
        | .brk ρ2 S2 => .nx ρ2 S2
        | .ret d S2 => .ret d S2
        | .err x ρ2 S2 => .err x ρ2 S2
        | .bad => .bad
      | none => .nx ρ S
    | _ => .bad
def cForR (c : C) (t : Tg) (body : CS) : CS := fun ρ S => .of ρ (c ρ S) fun d S => match d with
  | .ref l n => forI l n t body 16000001 0 ρ S
  | _ => .bad
/-- a list, a tuple, a text, a changeable list -/
def cForA (c : C) (t : Tg) (body : CS) : CS := fun ρ S => .of ρ (c ρ S) fun d S => match d with
  | .ref l n => forI l n t body 16000001 0 ρ S
  | .tup ds => forL t body ds ρ S
  | .lst ds => forL t body ds ρ S
  | .rol ds => forL t body ds ρ S
  | .str x => forL t body (signsD x) ρ S
  | _ => .bad
section
variable {X : Cx} {W : WX} {tg iter : Expr} {body : List Stmt} {c : C} {t : Tg} {sl : List Nat} {cb : CS} {pos : Pos}
theorem ms_forR (hp : PassesOwn (model X.prog X.w) X.A X.env X.xe) (hc : X.calm = true) (hi : ME X W iter c) (hg : MG X tg t sl) (hb : MSs X W body cb)
    (hs : ∀ x, foldedSetIterable iter X.env x = pure x := by intro _; rfl) : MS X W (.For tg iter body [] pos) (cForR c t cb) := by
  obtain ⟨g, pg, gs⟩ := hg.pg
  refine ⟨(ps_for hp hc (pi_either hi.pe) pg hb.ps hs).imp fun D' σ H h => ?_⟩
  obtain ⟨ρ, φ, S, hE, hs, h⟩ := h
  refine ⟨ρ, φ, S, hE, hs, OkS.from hE h fun d S1 φ1 H1 v q l s r z => ?_⟩
  cases r <;> try exact z.elim
  rename_i lv n a e0
  have e1 : ∃ vs, H1 a = some (.lst vs) := by
    have z' : OkS X.K X.mg φ1 H1 W D' (forI lv n t cb 16000001 0 ρ S1) := z
    unfold forI at z'
    cases q1 : look S1 lv n with
    | none => simp only [q1] at z'; exact z'.elim
    | some o =>
      cases o with
      | lst xs =>
        obtain ⟨vs, hv, _⟩ := s.obj lv n _ a q1 e0
        exact ⟨vs, hv⟩
      | box b xs => simp only [q1] at z'; exact z'.elim
      | dead => simp only [q1] at z'; exact z'.elim
  obtain ⟨vs0, e1⟩ := e1
  refine ⟨a, rfl, .inl ⟨⟨vs0, SqL.of e1⟩, ?_⟩⟩
  refine ⟨fun i m σ H => ∃ ρ φ S, Le φ1 H1 φ H ∧ RE X.K φ H ρ σ ∧ RS X.K φ H S ∧ OkS X.K X.mg φ H W D' (forI lv n t cb m i ρ S), ⟨16000001, ρ, φ1, S1, Le.refl _ _, hE.mono l, s, z⟩, ?_⟩
  rintro i m σ H ⟨ρ, φ, S, l2, hE, hs, h⟩
  have e2 := l2.grow _ _ _ e0
  cases m with
  | zero => exact h.elim
  | succ k =>
    unfold forI at h
    cases q1 : look S lv n with
    | none => simp only [q1] at h; exact h.elim
    | some o =>
      cases o with
      | box b xs => simp only [q1] at h; exact h.elim
      | dead => simp only [q1] at h; exact h.elim
      | lst xs =>
        simp only [q1] at h
        obtain ⟨vs, hv, zz, rr⟩ := hs.obj lv n _ a q1 e2
        cases q2 : xs[i]? with
        | none =>
          simp only [q2] at h
          have hlen : vs.length ≤ i := by
            rw [← rr.length]
            exact List.getElem?_eq_none_iff.mp q2
          exact .inl ⟨⟨vs, SqL.of hv, hlen⟩, h φ H σ (Le.refl _ _) hs hE⟩
        | some d =>
          simp only [q2] at h
          obtain ⟨v, hv2, rv⟩ := rr.get q2
          refine .inr ⟨⟨vs, v, SqL.of hv, hv2⟩, fun σ' H' => ∃ ρ φ S, Le φ1 H1 φ H' ∧ RE X.K φ H' ρ σ' ∧ RS X.K φ H' S ∧ OkS X.K X.mg φ H' W D' (forI lv n t cb k (i + 1) ρ S), fun σ' H' nn => ⟨k, Nat.lt_succ_self _, nn⟩, fun x H' y => ?_⟩
          obtain ⟨ye, y⟩ := y
          subst ye
          have := y vs (SqL.of hv)
          rw [hv2] at this
          cases this
          unfold tgR at h
          cases q3 : t d ρ with
          | none => simp only [q3] at h; exact h.elim
          | some ρ1 =>
            simp only [q3] at h
            refine gs.go φ H' _ v ρ ρ1 σ _ rv hE q3 fun σ1 re1 _ => ⟨ρ1, φ, S, re1, hs, ?_⟩
            cases q4 : cb ρ1 S with
            | nx ρ2 S2 =>
              simp only [q4] at h
              exact fun φ4 H4 σ4 l4 s4 re4 => ⟨ρ2, φ4, S2, l2.trans l4, re4, s4, OkS.later l4 h⟩
            | cnt ρ2 S2 =>
              simp only [q4] at h
              exact fun φ4 H4 σ4 l4 s4 re4 => ⟨ρ2, φ4, S2, l2.trans l4, re4, s4, OkS.later l4 h⟩
            | brk ρ2 S2 => simp only [q4] at h; exact h
            | ret d S2 => simp only [q4] at h; exact h
            | err x ρ2 S2 => simp only [q4] at h; exact h
            | bad => simp only [q4] at h; exact h
theorem ms_forA (hp : PassesOwn (model X.prog X.w) X.A X.env X.xe) (hc : X.calm = true) (hi : ME X W iter c) (hg : MG X tg t sl) (hb : MSs X W body cb)
    (hs : ∀ x, foldedSetIterable iter X.env x = pure x := by intro _; rfl) : MS X W (.For tg iter body [] pos) (cForA c t cb) :=
  .or (ms_for hp hc (mi_it hi) hg hb hs) (ms_forR hp hc hi hg hb hs) fun ρ S => by
    unfold cForA cFor cForR ciIt
    cases c ρ S with
    | err x S => exact .inl rfl
    | bad => exact .inl rfl
    | ok d S1 =>
      simp only [R.bind_ok, RSt.of_ok]
      cases d <;> first | exact .inl rfl | exact .inr rfl
end
end MP

/-! MP: texts compared, int of a text. -/
namespace MP
open PySem PySem.Spec PyProof.Rows L2
def b2i (b : Bool) : Int := if b = true then 1 else 0
theorem gives_lt_bi (a : Bool) (j : Int) (u : Tok) : Gives (Builtin.«int.__lt__» ⟨[.bool a, .int j u], []⟩) (.val (.bool (decide (b2i a < j)))) := by cases a <;> exact .of_eq rfl
theorem gives_gt_bi (a : Bool) (j : Int) (u : Tok) : Gives (Builtin.«int.__gt__» ⟨[.bool a, .int j u], []⟩) (.val (.bool (decide (b2i a > j)))) := by cases a <;> exact .of_eq rfl
theorem gives_lt_bb (a b : Bool) : Gives (Builtin.«int.__lt__» ⟨[.bool a, .bool b], []⟩) (.val (.bool (decide (b2i a < b2i b)))) := by cases a <;> cases b <;> exact .of_eq rfl
section
variable {prog : Program} {w : World} {A : Around} {E : Value → Shared → Prop} {s : Shared} {Q : Value → Shared → Prop}
theorem lt_bi (a : Bool) (j : Int) (u : Tok) (h : Q (.bool (decide (b2i a < j))) s) : wpAny (model prog w) A (compareOp .Lt (.bool a) (.int j u)) Q E s :=
  SeqAt.rc_left_or (op := .Lt) rfl (typeIs_int s j u) (by decide) F.sub_int_bool F.slot_bool_lt
    (call_gives F.slot_bool_lt rfl F.entry_int_lt (F.args_int_lt_2 _ _) (gives_lt_bi a j u) ⟨nofun, h⟩) (.inl rfl)
theorem lt_ib (i : Int) (t : Tok) (b : Bool) (h : Q (.bool (decide (i < b2i b))) s) : wpAny (model prog w) A (compareOp .Lt (.int i t) (.bool b)) Q E s :=
  SeqAt.rc_sub_first_or (op := .Lt) (typeIs_int s i t) rfl (by decide) F.sub_bool_int F.slot_bool_gt_refl
    (call_gives F.slot_bool_gt_refl rfl F.entry_int_gt (F.args_int_gt_2 _ _) (gives_gt_bi b i t) ⟨nofun, h⟩) (.inl rfl)
end
/-- a number and a truth value -/
def gLtB : G2 := fun x y S => match x, y with
  | .bl a, .int j => .ok (.bl (decide (b2i a < j))) S
  | .int i, .bl b => .ok (.bl (decide (i < b2i b))) S
  | _, _ => .bad
def D.isBl : D → Bool
  | .bl _ => true
  | _ => false
theorem os_ltB {X : Cx} : OS X (compareOp .Lt) gLtB := by
  refine ⟨fun x y H Q => (∃ a j, x = .bl a ∧ y = .int j ∧ Q (.bl (decide (b2i a < j))) H) ∨ (∃ i b, x = .int i ∧ y = .bl b ∧ Q (.bl (decide (i < b2i b))) H), ?_, ?_⟩
  · intro pins s σ H x y v u Q I rx ry h
    rcases h with ⟨a, j, rfl, rfl, q⟩ | ⟨i, b, rfl, rfl, q⟩
    · obtain rfl : v = Value.bool a := rx
      obtain ⟨t, rfl⟩ := ry
      exact lt_bi a j t ⟨.bl _, H, I, rfl, q⟩
    · obtain ⟨t, rfl⟩ := rx
      obtain rfl : u = Value.bool b := ry
      exact lt_ib i t b ⟨.bl _, H, I, rfl, q⟩
  · intro W σ φ H S x y vx vy Q s rx ry z
    cases rx <;> first | exact z.elim | skip
    all_goals (cases ry <;> first | exact z.elim | skip)
    · exact .inl ⟨_, _, rfl, rfl, z φ H _ (Le.refl _ _) s (.bl _)⟩
    · exact .inr ⟨_, _, rfl, rfl, z φ H _ (Le.refl _ _) s (.bl _)⟩
def gLtS : G2 := fun x y S => match x, y with
  | .str i, .str j => .ok (.bl (decide (i.cps.toList < j.cps.toList))) S
  | _, _ => .bad
def gLeS : G2 := fun x y S => match x, y with
  | .str i, .str j => .ok (.bl (!decide (j.cps.toList < i.cps.toList))) S
  | _, _ => .bad
def gGtS : G2 := fun x y S => match x, y with
  | .str i, .str j => .ok (.bl (decide (j.cps.toList < i.cps.toList))) S
  | _, _ => .bad
def gGeS : G2 := fun x y S => match x, y with
  | .str i, .str j => .ok (.bl (!decide (i.cps.toList < j.cps.toList))) S
  | _, _ => .bad
def D.isStr : D → Bool
  | .str _ => true
  | _ => false
def gLtA : G2 := fun x y S => if x.isStr then gLtS x y S else if x.isBl || y.isBl then gLtB x y S else gLt x y S
def gLeA : G2 := fun x y S => if x.isStr then gLeS x y S else gLe x y S
def gGtA : G2 := fun x y S => if x.isStr then gGtS x y S else gGt x y S
def gGeA : G2 := fun x y S => if x.isStr then gGeS x y S else gGe x y S
section
variable {X : Cx}
theorem os_str {f : Value → Value → Sem Value} {q : Str → Str → Bool} (h : OpR X f (fun x y H Q => ∃ i j, x = .str i ∧ y = .str j ∧ Q (.bl (q i j)) H)) : OS X f (fun x y S => match x, y with
  | .str i, .str j => .ok (.bl (q i j)) S
  | _, _ => .bad) := ⟨_, h, fun W σ φ H S x y vx vy Q s rx ry z => by
  cases rx <;> try exact z.elim
  cases ry <;> try exact z.elim
  exact ⟨_, _, rfl, rfl, z φ H _ (Le.refl _ _) s (.bl _)⟩⟩
def gLtI : G2 := fun x y S => if x.isBl || y.isBl then gLtB x y S else gLt x y S
theorem os_ltI : OS X (compareOp .Lt) gLtI := OS.or os_ltB os_lt fun x y S => by
  unfold gLtI
  by_cases h : (x.isBl || y.isBl) = true
  · exact .inl (if_pos h)
  · exact .inr (if_neg h)
theorem os_ltA : OS X (compareOp .Lt) gLtA := OS.or (os_str op_lt_str) os_ltI fun x y S => by
  unfold gLtA gLtI
  by_cases h : x.isStr = true
  · exact .inl (by simp only [h, if_true]; rfl)
  · exact .inr (by simp only [h]; rfl)
theorem os_leA : OS X (compareOp .LtE) gLeA := OS.or (os_str op_le_str) os_le fun x y S => by
  unfold gLeA
  by_cases h : x.isStr = true
  · exact .inl (by simp only [h, if_true]; rfl)
  · exact .inr (by simp only [h]; rfl)
theorem os_gtA : OS X (compareOp .Gt) gGtA := OS.or (os_str op_gt_str) os_gt fun x y S => by
  unfold gGtA
  by_cases h : x.isStr = true
  · exact .inl (by simp only [h, if_true]; rfl)
  · exact .inr (by simp only [h]; rfl)
theorem os_geA : OS X (compareOp .GtE) gGeA := OS.or (os_str op_ge_str) os_ge fun x y S => by
  unfold gGeA
  by_cases h : x.isStr = true
  · exact .inl (by simp only [h, if_true]; rfl)
  · exact .inr (by simp only [h]; rfl)
def gIntS : List D → Sto → R D := fun ds S => match ds with
  | [.str a] => match PySem.intText? a with
    | some n => if a.length ≤ 640 then .ok (.int n) S else .bad
    | none => .bad
  | _ => .bad
def gIntA : List D → Sto → R D := fun ds S => match ds with
  | [.str a] => gIntS [.str a] S
  | ds => gInt ds S
theorem ks_intS : KS X (.type "int") gIntS := by
  refine ⟨_, call_int_str, fun W σ φ H S ds vs Q s r z => ?_⟩
  unfold gIntS at z
  split at z
  · rename_i a
    obtain ⟨v, rfl, r1⟩ := relD1 r
    cases r1
    cases q : PySem.intText? a with
    | none => simp only [q] at z; exact z.elim
    | some n =>
      simp only [q] at z
      by_cases h : a.length ≤ 640
      · simp only [h, if_true] at z
        exact ⟨a, n, rfl, q, h, z φ H _ (Le.refl _ _) s (.int _)⟩
      · simp only [h, if_false] at z; exact z.elim
  · exact z.elim
theorem ks_intA : KS X (.type "int") gIntA := KS.or ks_intS ks_int fun ds S => by
  unfold gIntA
  split
  · exact .inl rfl
  · exact .inr rfl
end
end MP

/-! MP: {True: a, False: b}[c]. -/
namespace MP
open PySem PySem.Spec PyProof.Rows L2
def cBoolSel (x y : Str) (c : C) : C := fun ρ S => (c ρ S).bind fun d S => match d with
  | .bl b => .ok (.str (if b then x else y)) S
  | _ => .bad
/-- where c's value goes: chosen between two texts -/
def tBoolSel (x y : Str) (te : TE) : TE := fun σ H Q => te σ H fun v H1 => ∃ b, v = .bl b ∧ Q (.str (if b then x else y)) H1
theorem pe_boolSel {X : Cx} {x y : Str} {e : Expr} {te : TE} {k1 k2 k3 k4 : Nat} {p1 p2 p3 p4 p5 pos : Pos} (he : PE X e te) (hs : NoSl e := by intro _ _; rfl) :
    PE X (.Subscript (.Dict [some (.Constant (.bool true) k1 p1), some (.Constant (.bool false) k2 p2)] [.Constant (.str x) k3 p3, .Constant (.str y) k4 p4] p5) e pos) (tBoolSel x y te) := by
  refine ⟨fun pins s σ H Q I h => ?_⟩
  have hn := I.hok.fresh (Nat.le_refl s.heap.objs.size)
  have I1 : Inv X pins σ H { s with heap := s.heap.push { cls := .type "dict", data := .dict #[] } } := I.kept (t' := s.toks) fun _ _ q => Heap.get?_push_of_some _ q
  have hL : s.heap.objs.size ≠ X.env.locals := Ne.symm (Nat.ne_of_lt I.lt)
  have g0 : (s.heap.push { cls := .type "dict", data := .dict #[] }).get? s.heap.objs.size = some { cls := .type "dict", data := .dict #[] } := Heap.get?_push_size _ rfl
  have hL1 : s.heap.objs.size ∉ X.fs := I.nofs (Nat.le_refl _)
  have ltc : ∀ z c, X.env.cells.lookup z = some c → c ≠ s.heap.objs.size := fun z c q => by
    obtain ⟨v, o, ho, _⟩ := I.cell z c q
    exact Nat.ne_of_lt (Heap.lt_size ho)
  have ltp : ∀ p ∈ X.pn ++ pins, p.1 ≠ s.heap.objs.size := fun p hp => Nat.ne_of_lt (Heap.lt_size (I.pin p hp).1)
  have drop : ∀ {o : Obj} {σ' : L2.St} {H' : Hp} {s' : Shared}, Inv X ((s.heap.objs.size, o) :: pins) σ' H' s' → Inv X pins σ' H' s' ∧ s'.heap.get? s.heap.objs.size = some o ∧ H' s.heap.objs.size = none := fun {o σ' H' s'} J =>
    ⟨J.pins_of fun p hp => J.pin p (List.mem_append_right _ (List.mem_cons_of_mem _ hp)), (J.pin _ (List.mem_append_right _ List.mem_cons_self)).1, (J.pin _ (List.mem_append_right _ List.mem_cons_self)).2.1⟩
  have addp : ∀ {o : Obj} {σ' : L2.St} {H' : Hp} {s' : Shared}, Inv X pins σ' H' s' → s'.heap.get? s.heap.objs.size = some o → H' s.heap.objs.size = none → (∀ v, o.data ≠ .cell v) → Inv X ((s.heap.objs.size, o) :: pins) σ' H' s' := fun {o σ' H' s'} J e1 e2 e3 =>
    J.pins_of fun p hp => by
      rcases List.mem_cons.mp hp with rfl | hp
      · exact ⟨e1, e2, hL, hL1, e3⟩
      · exact J.pin p (List.mem_append_right _ hp)
  have Ip := addp (o := { cls := .type "dict", data := .dict #[] }) I1 g0 hn fun v q => by cases q
  have cst : ∀ {v : Expr} {V0 : V} {J : List (Addr × Obj)} {s' : Shared} {Q' : Value → Shared → Prop}, PE X v (fun _ H Q => Q V0 H) → Inv X J σ H s' → (∀ u s'', Inv X J σ H s'' → RelV V0 u → Q' u s'') → wpAny (model X.prog X.w) X.A (eval v X.env) Q' X.xe s' := fun {v V0 J s' Q'} hv J0 k =>
    thn (hv.run _ _ σ H (fun v0 H0 => v0 = V0 ∧ H0 = H) J0 ⟨rfl, rfl⟩) fun u s'' ⟨v0, H0, J1, r, e1, e2⟩ => by
      subst e1; subst e2
      exact k u s'' J1 r
  refine subD_of PySem.F.slot_dict_getitem.lookup hs (wpAny_Dict_walk (knd := PpSet.boolK X.prog X.w) rfl rfl (List.cons_ne_nil _ _) (by show 2 ≤ 15; decide) ?_)
  refine pairTrees_cons_walk (cst (V0 := .bl true) pe_bl Ip fun u1 s1 J1 r1 => cst (V0 := .str x) pe_str J1 fun u2 s2 J2 r2 => pairTrees_cons_walk (cst (V0 := .bl false) pe_bl J2 fun u3 s3 J3 r3 => cst (V0 := .str y) pe_str J3 fun u4 s4 J4 r4 => pairTrees_nil_walk ?_))
  obtain rfl : u1 = Value.bool true := r1
  obtain rfl : u3 = Value.bool false := r3
  obtain ⟨J, g4, f4⟩ := drop J4
  have dd0 : s4.heap.DictOf (PpSet.boolK X.prog X.w) s.heap.objs.size [] := by
    obtain ⟨o, es, ep, t1, t2, t3, t4⟩ := (Heap.DictOf.new (knd := PpSet.boolK X.prog X.w) s.heap)
    rw [g0] at t1
    cases t1
    exact ⟨_, es, ep, g4, t2, t3, t4⟩
  refine ⟨[(true, u2), (false, u4)], ⟨rfl, rfl, rfl, rfl, True.intro⟩, dd0, fun h' dd hsb => ?_⟩
  have ea : ∃ o, h'.get? s.heap.objs.size = some o ∧ ∀ v, o.data ≠ .cell v := by
    obtain ⟨o, es, ep, t1, t2, t3, t4⟩ := dd
    exact ⟨o, t1, fun v q => by rw [t3] at q; cases q⟩
  obtain ⟨o, go, nc⟩ := ea
  have K1 : Inv X pins σ H { s4 with heap := h', toks := s4.toks + [(Value.bool true, u2), (Value.bool false, u4)].length } :=
    J.turned (fun b u hb q => (hsb.2 b hb).trans q) f4 hL (.inr I.sz) ltc fun p hp => ltp p hp
  refine thn (he.run _ _ σ H _ (addp K1 go f4 nc) h) fun u5 s5 ⟨v5, H5, J5, r5, b, e5, q5⟩ => ?_
  subst e5
  obtain rfl : u5 = Value.bool b := r5
  obtain ⟨J6, g6, f6⟩ := drop J5
  have dd5 : s5.heap.DictOf (PpSet.boolK X.prog X.w) s.heap.objs.size (merged [] [(true, u2), (false, u4)]) := by
    obtain ⟨o', es, ep, t1, t2, t3, t4⟩ := dd
    rw [go] at t1
    cases t1
    exact ⟨_, es, ep, g6, t2, t3, t4⟩
  refine ⟨dd5.typeIs, wpAny_getItem_of (knd := PpSet.boolK X.prog X.w) (k := b) (v := if b then u2 else u4) (PpSet.boolK_is _ _ _) dd5.mapOf (by cases b <;> rfl) ⟨.str (if b then x else y), H5, J6.tok _, ?_, q5⟩⟩
  cases b
  · exact r4
  · exact r2
theorem me_boolSel {X : Cx} {W : WX} {x y : Str} {e : Expr} {ce : C} {k1 k2 k3 k4 : Nat} {p1 p2 p3 p4 p5 pos : Pos} (he : ME X W e ce) (hs : NoSl e := by intro _ _; rfl) :
    ME X W (.Subscript (.Dict [some (.Constant (.bool true) k1 p1), some (.Constant (.bool false) k2 p2)] [.Constant (.str x) k3 p3, .Constant (.str y) k4 p4] p5) e pos) (cBoolSel x y ce) := by
  refine ⟨(pe_boolSel (x := x) (y := y) he.pe hs).imp fun σ H Q h => ?_⟩
  obtain ⟨ρ, φ, S, hE, hR, h⟩ := h
  refine ⟨ρ, φ, S, hE, hR, Ok.step h fun d S1 φ1 H1 v q l1 s1 r z => ?_⟩
  cases d with
  | bl b => cases r with | bl => exact ⟨b, rfl, z _ _ _ (Le.refl _ _) s1 (.str _)⟩
  | _ => exact z.elim
end MP

/-! MP: how meanings are reckoned (simp). -/
namespace MP
open PySem PySem.Spec PyProof.Rows L2

/-! ### isinstance -/
@[simp] theorem kit_ii : kitB "int" "int" = some true := by decide +kernel
@[simp] theorem kit_ib : kitB "int" "bool" = some false := by decide +kernel
@[simp] theorem kit_is : kitB "int" "str" = some false := by decide +kernel
@[simp] theorem kit_it : kitB "int" "tuple" = some false := by decide +kernel
@[simp] theorem kit_il : kitB "int" "list" = some false := by decide +kernel
@[simp] theorem kit_id : kitB "int" "dict" = some false := by decide +kernel
@[simp] theorem kit_bi : kitB "bool" "int" = some true := by decide +kernel
@[simp] theorem kit_bb : kitB "bool" "bool" = some true := by decide +kernel
@[simp] theorem kit_bs : kitB "bool" "str" = some false := by decide +kernel
@[simp] theorem kit_bt : kitB "bool" "tuple" = some false := by decide +kernel
@[simp] theorem kit_bl : kitB "bool" "list" = some false := by decide +kernel
@[simp] theorem kit_bd : kitB "bool" "dict" = some false := by decide +kernel
@[simp] theorem kit_si : kitB "str" "int" = some false := by decide +kernel
@[simp] theorem kit_sb : kitB "str" "bool" = some false := by decide +kernel
@[simp] theorem kit_ss : kitB "str" "str" = some true := by decide +kernel
@[simp] theorem kit_st : kitB "str" "tuple" = some false := by decide +kernel
@[simp] theorem kit_sl : kitB "str" "list" = some false := by decide +kernel
@[simp] theorem kit_sd : kitB "str" "dict" = some false := by decide +kernel
@[simp] theorem kit_ti : kitB "tuple" "int" = some false := by decide +kernel
@[simp] theorem kit_tb : kitB "tuple" "bool" = some false := by decide +kernel
@[simp] theorem kit_ts : kitB "tuple" "str" = some false := by decide +kernel
@[simp] theorem kit_tt : kitB "tuple" "tuple" = some true := by decide +kernel
@[simp] theorem kit_tl : kitB "tuple" "list" = some false := by decide +kernel
@[simp] theorem kit_td : kitB "tuple" "dict" = some false := by decide +kernel
@[simp] theorem kit_li : kitB "list" "int" = some false := by decide +kernel
@[simp] theorem kit_lb : kitB "list" "bool" = some false := by decide +kernel
@[simp] theorem kit_ls : kitB "list" "str" = some false := by decide +kernel
@[simp] theorem kit_lt : kitB "list" "tuple" = some false := by decide +kernel
@[simp] theorem kit_ll : kitB "list" "list" = some true := by decide +kernel
@[simp] theorem kit_ld : kitB "list" "dict" = some false := by decide +kernel
@[simp] theorem kit_ni : kitB "NoneType" "int" = some false := by decide +kernel
@[simp] theorem kit_nb : kitB "NoneType" "bool" = some false := by decide +kernel
@[simp] theorem kit_ns : kitB "NoneType" "str" = some false := by decide +kernel
@[simp] theorem kit_nt : kitB "NoneType" "tuple" = some false := by decide +kernel
@[simp] theorem kit_nl : kitB "NoneType" "list" = some false := by decide +kernel
@[simp] theorem kit_nd : kitB "NoneType" "dict" = some false := by decide +kernel
section
variable (S : Sto)
@[simp] theorem isi_int_int (i : Int) : gIsi [.int i, .ty "int"] S = .ok (.bl true) S := by simp [gIsi, D.tyName]
@[simp] theorem isi_int_bool (i : Int) : gIsi [.int i, .ty "bool"] S = .ok (.bl false) S := by simp [gIsi, D.tyName]
@[simp] theorem isi_int_str (i : Int) : gIsi [.int i, .ty "str"] S = .ok (.bl false) S := by simp [gIsi, D.tyName]
@[simp] theorem isi_int_tuple (i : Int) : gIsi [.int i, .ty "tuple"] S = .ok (.bl false) S := by simp [gIsi, D.tyName]
@[simp] theorem isi_int_list (i : Int) : gIsi [.int i, .ty "list"] S = .ok (.bl false) S := by simp [gIsi, D.tyName]
@[simp] theorem isi_int_dict (i : Int) : gIsi [.int i, .ty "dict"] S = .ok (.bl false) S := by simp [gIsi, D.tyName]
@[simp] theorem isi_bl_int (i : Bool) : gIsi [.bl i, .ty "int"] S = .ok (.bl true) S := by simp [gIsi, D.tyName]
@[simp] theorem isi_bl_bool (i : Bool) : gIsi [.bl i, .ty "bool"] S = .ok (.bl true) S := by simp [gIsi, D.tyName]
@[simp] theorem isi_bl_str (i : Bool) : gIsi [.bl i, .ty "str"] S = .ok (.bl false) S := by simp [gIsi, D.tyName]
@[simp] theorem isi_bl_tuple (i : Bool) : gIsi [.bl i, .ty "tuple"] S = .ok (.bl false) S := by simp [gIsi, D.tyName]
@[simp] theorem isi_bl_list (i : Bool) : gIsi [.bl i, .ty "list"] S = .ok (.bl false) S := by simp [gIsi, D.tyName]
@[simp] theorem isi_bl_dict (i : Bool) : gIsi [.bl i, .ty "dict"] S = .ok (.bl false) S := by simp [gIsi, D.tyName]
@[simp] theorem isi_str_int (i : Str) : gIsi [.str i, .ty "int"] S = .ok (.bl false) S := by simp [gIsi, D.tyName]
@[simp] theorem isi_str_bool (i : Str) : gIsi [.str i, .ty "bool"] S = .ok (.bl false) S := by simp [gIsi, D.tyName]
@[simp] theorem isi_str_str (i : Str) : gIsi [.str i, .ty "str"] S = .ok (.bl true) S := by simp [gIsi, D.tyName]
@[simp] theorem isi_str_tuple (i : Str) : gIsi [.str i, .ty "tuple"] S = .ok (.bl false) S := by simp [gIsi, D.tyName]
@[simp] theorem isi_str_list (i : Str) : gIsi [.str i, .ty "list"] S = .ok (.bl false) S := by simp [gIsi, D.tyName]
@[simp] theorem isi_str_dict (i : Str) : gIsi [.str i, .ty "dict"] S = .ok (.bl false) S := by simp [gIsi, D.tyName]
@[simp] theorem isi_non_int  : gIsi [.non, .ty "int"] S = .ok (.bl false) S := by simp [gIsi, D.tyName]
@[simp] theorem isi_non_bool  : gIsi [.non, .ty "bool"] S = .ok (.bl false) S := by simp [gIsi, D.tyName]
@[simp] theorem isi_non_str  : gIsi [.non, .ty "str"] S = .ok (.bl false) S := by simp [gIsi, D.tyName]
@[simp] theorem isi_non_tuple  : gIsi [.non, .ty "tuple"] S = .ok (.bl false) S := by simp [gIsi, D.tyName]
@[simp] theorem isi_non_list  : gIsi [.non, .ty "list"] S = .ok (.bl false) S := by simp [gIsi, D.tyName]
@[simp] theorem isi_non_dict  : gIsi [.non, .ty "dict"] S = .ok (.bl false) S := by simp [gIsi, D.tyName]
@[simp] theorem isi_tup_int (i : List D) : gIsi [.tup i, .ty "int"] S = .ok (.bl false) S := by simp [gIsi, D.tyName]
@[simp] theorem isi_tup_bool (i : List D) : gIsi [.tup i, .ty "bool"] S = .ok (.bl false) S := by simp [gIsi, D.tyName]
@[simp] theorem isi_tup_str (i : List D) : gIsi [.tup i, .ty "str"] S = .ok (.bl false) S := by simp [gIsi, D.tyName]
@[simp] theorem isi_tup_tuple (i : List D) : gIsi [.tup i, .ty "tuple"] S = .ok (.bl true) S := by simp [gIsi, D.tyName]
@[simp] theorem isi_tup_list (i : List D) : gIsi [.tup i, .ty "list"] S = .ok (.bl false) S := by simp [gIsi, D.tyName]
@[simp] theorem isi_tup_dict (i : List D) : gIsi [.tup i, .ty "dict"] S = .ok (.bl false) S := by simp [gIsi, D.tyName]
@[simp] theorem isi_lst_int (i : List D) : gIsi [.lst i, .ty "int"] S = .ok (.bl false) S := by simp [gIsi, D.tyName]
@[simp] theorem isi_lst_bool (i : List D) : gIsi [.lst i, .ty "bool"] S = .ok (.bl false) S := by simp [gIsi, D.tyName]
@[simp] theorem isi_lst_str (i : List D) : gIsi [.lst i, .ty "str"] S = .ok (.bl false) S := by simp [gIsi, D.tyName]
@[simp] theorem isi_lst_tuple (i : List D) : gIsi [.lst i, .ty "tuple"] S = .ok (.bl false) S := by simp [gIsi, D.tyName]
@[simp] theorem isi_lst_list (i : List D) : gIsi [.lst i, .ty "list"] S = .ok (.bl true) S := by simp [gIsi, D.tyName]
@[simp] theorem isi_lst_dict (i : List D) : gIsi [.lst i, .ty "dict"] S = .ok (.bl false) S := by simp [gIsi, D.tyName]
@[simp] theorem isi_rol_int (i : List D) : gIsi [.rol i, .ty "int"] S = .ok (.bl false) S := by simp [gIsi, D.tyName]
@[simp] theorem isi_rol_bool (i : List D) : gIsi [.rol i, .ty "bool"] S = .ok (.bl false) S := by simp [gIsi, D.tyName]
@[simp] theorem isi_rol_str (i : List D) : gIsi [.rol i, .ty "str"] S = .ok (.bl false) S := by simp [gIsi, D.tyName]
@[simp] theorem isi_rol_tuple (i : List D) : gIsi [.rol i, .ty "tuple"] S = .ok (.bl false) S := by simp [gIsi, D.tyName]
@[simp] theorem isi_rol_list (i : List D) : gIsi [.rol i, .ty "list"] S = .ok (.bl true) S := by simp [gIsi, D.tyName]
@[simp] theorem isi_rol_dict (i : List D) : gIsi [.rol i, .ty "dict"] S = .ok (.bl false) S := by simp [gIsi, D.tyName]
end
section
variable (S : Sto) (ρ : Ro)
@[simp] theorem cK_eq (d : D) : cK d ρ S = .ok d S := (rfl)
theorem cV_eq (i : Nat) : cV i ρ S = match ρ[i]? with | some (some d) => .ok d S | _ => .bad := (rfl)
@[simp] theorem cV_0 (d : D) (r : Ro) : cV 0 (some d :: r) S = .ok d S := (rfl)
@[simp] theorem cV_s (i : Nat) (d : Option D) (r : Ro) : cV (i + 1) (d :: r) S = cV i r S := by
  simp [cV]
end

/-! ### the combinators, applied -/
section
variable (S : Sto) (ρ : Ro)
@[simp] theorem cB_eq (g : G2) (a b : C) : cB g a b ρ S = (a ρ S).bind fun x S => (b ρ S).bind fun y S => g x y S := (rfl)
@[simp] theorem cU_eq (g : D → Sto → R D) (a : C) : cU g a ρ S = (a ρ S).bind fun x S => g x S := (rfl)
@[simp] theorem caNil_eq : caNil ρ S = .ok [] S := (rfl)
@[simp] theorem caCons_eq (a : C) (b : CA) : caCons a b ρ S = (a ρ S).bind fun d S => (b ρ S).bind fun ds S => .ok (d :: ds) S := (rfl)
@[simp] theorem cT_eq (a : C) : cT a ρ S = (a ρ S).bind fun d S => tru d S := (rfl)
@[simp] theorem cTB_eq (a : C) : cTB a ρ S = (a ρ S).bind fun d S => match d with
  | .bl b => .ok b S
  | _ => .bad := (rfl)
@[simp] theorem tAnd_eq (a b : CT) : tAnd a b ρ S = (a ρ S).bind fun k S => if k = true then b ρ S else .ok false S := (rfl)
@[simp] theorem tOr_eq (a b : CT) : tOr a b ρ S = (a ρ S).bind fun k S => if k = true then .ok true S else b ρ S := (rfl)
@[simp] theorem tNot_eq (a : CT) : tNot a ρ S = (a ρ S).bind fun k S => .ok (!k) S := (rfl)
@[simp] theorem cAnd_eq (a b : C) : cAnd a b ρ S = (a ρ S).bind fun x S => (tru x S).bind fun k S => if k = true then b ρ S else .ok x S := (rfl)
@[simp] theorem cOr_eq (a b : C) : cOr a b ρ S = (a ρ S).bind fun x S => (tru x S).bind fun k S => if k = true then .ok x S else b ρ S := (rfl)
@[simp] theorem cNot_eq (a : C) : cNot a ρ S = (a ρ S).bind fun x S => (tru x S).bind fun k S => .ok (.bl (!k)) S := (rfl)
@[simp] theorem cIf_eq (t : CT) (a b : C) : cIf t a b ρ S = (t ρ S).bind fun k S => if k = true then a ρ S else b ρ S := (rfl)
@[simp] theorem cChain_eq (g g' : G2) (a b c : C) : cChain g g' a b c ρ S = (a ρ S).bind fun x S => (b ρ S).bind fun y S => (g x y S).bind fun k S => match k with
  | .bl true => (c ρ S).bind fun z S => g' y z S
  | .bl false => .ok (.bl false) S
  | _ => .bad := (rfl)
@[simp] theorem cTup_eq (a : CA) : cTup a ρ S = (a ρ S).bind fun ds S => .ok (.tup ds) S := (rfl)
@[simp] theorem cLst_eq (a : CA) : cLst a ρ S = (a ρ S).bind fun ds S => .ok (.lst ds) S := (rfl)
@[simp] theorem cCall_eq (g : List D → Sto → R D) (a : CA) : cCall g a ρ S = (a ρ S).bind g := (rfl)
@[simp] theorem coN_eq : coN ρ S = .ok none S := (rfl)
@[simp] theorem coS_eq (c : C) : coS c ρ S = (c ρ S).bind fun d S => match d with
  | .int i => .ok (some i) S
  | _ => .bad := (rfl)
@[simp] theorem cSl_eq (a : C) (lo hi : CO) : cSl a lo hi ρ S = (a ρ S).bind fun x S => (lo ρ S).bind fun l S => (hi ρ S).bind fun h S => gSl x l h S := (rfl)
@[simp] theorem ciSeq_eq (c : C) : ciSeq c ρ S = (c ρ S).bind fun d S => match d with
  | .tup ds => .ok ds S
  | .lst ds => .ok ds S
  | .rol ds => .ok ds S
  | _ => .bad := (rfl)
@[simp] theorem ciR1_eq (a : CA) : ciR1 a ρ S = (a ρ S).bind fun ds S => match ds with
  | [.int n] => if -16000000 ≤ n ∧ n ≤ 16000000 then .ok (rngD 0 n.toNat) S else .bad
  | _ => .bad := (rfl)
@[simp] theorem ciR2_eq (a : CA) : ciR2 a ρ S = (a ρ S).bind fun ds S => match ds with
  | [.int m, .int n] => if -16000000 ≤ m ∧ m ≤ 16000000 ∧ -16000000 ≤ n ∧ n ≤ 16000000 then .ok (rngD m (n - m).toNat) S else .bad
  | _ => .bad := (rfl)
@[simp] theorem cLc_eq (ci : CI) (t : Tg) (q : CT) (e : C) (vs : List Nat) : cLc ci t q e vs ρ S = (ci ρ S).bind fun ds S => if ds.length ≤ 16000000 then (lcL t q e (wipeR ρ vs) ds S).bind fun ys S => .ok (.lst ys) S else .bad := (rfl)
@[simp] theorem ctYes_eq : ctYes ρ S = .ok true S := (rfl)
@[simp] theorem wipeR_nil : wipeR ρ [] = ρ := (rfl)
@[simp] theorem wipeR_cons (v : Nat) (vs : List Nat) : wipeR ρ (v :: vs) = (wipeR ρ vs).set v none := (rfl)
@[simp] theorem cNew_eq (k : Nat) (a : CA) : cNew k a ρ S = (a ρ S).bind fun ds S => match newAt k S (.lst ds) with
  | some (l, i, S') => if D.les l ds = true then .ok (.ref l i) S' else .bad
  | none => .bad := (rfl)
@[simp] theorem cApp_eq (o e : C) : cApp o e ρ S = (o ρ S).bind fun x S => match x with
  | .ref l n => match look S l n with
    | some (.lst _) => (e ρ S).bind fun d S => match look S l n with
      | some (.lst xs) => if xs.length < 16000000 ∧ D.les l (xs ++ [d]) = true then .ok .non (put S l n (.lst (xs ++ [d]))) else .bad
      | _ => .bad
    | _ => .bad
  | _ => .bad := (rfl)
/-! statements -/
@[simp] theorem cNext_eq : cNext ρ S = .nx ρ S := (rfl)
@[simp] theorem cSeq_eq (a b : CS) : cSeq a b ρ S = (a ρ S).andThen b := (rfl)
@[simp] theorem cBrk_eq : cBrk ρ S = .brk ρ S := (rfl)
@[simp] theorem cCnt_eq : cCnt ρ S = .cnt ρ S := (rfl)
@[simp] theorem cDrop_eq (c : C) : cDrop c ρ S = .of ρ (c ρ S) fun _ S => .nx ρ S := (rfl)
@[simp] theorem cRet_eq (c : C) : cRet c ρ S = .of ρ (c ρ S) fun d S => .ret d S := (rfl)
@[simp] theorem cRetN_eq : cRetN ρ S = .ret .non S := (rfl)
@[simp] theorem cIfS_eq (t : CT) (a b : CS) : cIfS t a b ρ S = .of ρ (t ρ S) fun k S => if k = true then a ρ S else b ρ S := (rfl)
@[simp] theorem cAsg_eq (t : Tg) (c : C) : cAsg t c ρ S = .of ρ (c ρ S) fun d S => tgR t d ρ fun ρ' => .nx ρ' S := (rfl)
@[simp] theorem tgR_tup (ts : List Tg) (ds : List D) (f : Ro → RSt) : tgR (tgT ts) (.tup ds) ρ f = match tgs ts ds ρ with
  | some ρ' => f ρ'
  | none => .bad := (rfl)
@[simp] theorem tgs_nil : tgs [] [] ρ = some ρ := (rfl)
@[simp] theorem tgs_name (i : Nat) (ts : List Tg) (d : D) (ds : List D) : tgs (tgN i :: ts) (d :: ds) ρ = tgs ts ds (ρ.set i (some d)) := (rfl)
@[simp] theorem tgN_eq (i : Nat) (d : D) : tgN i d ρ = some (ρ.set i (some d)) := (rfl)
@[simp] theorem tgT_eq (ts : List Tg) (ds : List D) : tgT ts (.tup ds) ρ = tgs ts ds ρ := (rfl)
@[simp] theorem cPar_eq (is : List Nat) (c : CA) : cPar is c ρ S = .of ρ (c ρ S) fun ds S => match tgs (is.map tgN) ds ρ with
  | some ρ' => .nx ρ' S
  | none => .bad := (rfl)
@[simp] theorem cAug_eq (i : Nat) (g : G2) (c : C) : cAug i g c ρ S = .of ρ (cV i ρ S) fun x _ => .of ρ (c ρ S) fun y S => .of ρ (g x y S) fun z S => .nx (ρ.set i (some z)) S := by
  unfold cAug cV
  cases h : ρ[i]? with
  | none => rfl
  | some o => cases o <;> rfl
@[simp] theorem cSetI_eq (o i e : C) : cSetI o i e ρ S = .of ρ (e ρ S) fun d S => .of ρ (o ρ S) fun x S => .of ρ (i ρ S) fun k S => match x, k with
  | .ref l n, .int j => match look S l n with
    | some (.lst xs) => match ixN xs.length j with
      | some m => if D.les l (xs.set m d) = true then .nx ρ (put S l n (.lst (xs.set m d))) else .bad
      | none => .bad
    | _ => .bad
  | _, _ => .bad := (rfl)
@[simp] theorem cFor_eq (ci : CI) (t : Tg) (body : CS) : cFor ci t body ρ S = .of ρ (ci ρ S) fun ds S => forL t body ds ρ S := (rfl)
@[simp] theorem forL_nil (t : Tg) (body : CS) : forL t body [] ρ S = .nx ρ S := (rfl)
theorem forL_cons (t : Tg) (body : CS) (d : D) (ds : List D) : forL t body (d :: ds) ρ S = tgR t d ρ fun ρ1 => match body ρ1 S with
    | .nx ρ2 S2 => forL t body ds ρ2 S2
    | .cnt ρ2 S2 => forL t body ds ρ2 S2
    | .brk ρ2 S2 => .nx ρ2 S2
    | .ret d S2 => .ret d S2
    | .err x ρ2 S2 => .err x ρ2 S2
    | .bad => .bad := (rfl)
@[simp] theorem lcL_nil (t : Tg) (q : CT) (e : C) : lcL t q e ρ [] S = .ok [] S := (rfl)
theorem lcL_cons (t : Tg) (q : CT) (e : C) (d : D) (ds : List D) : lcL t q e ρ (d :: ds) S = match t d ρ with
    | some ρ1 => (q ρ1 S).calm.bind fun k S1 => if k = true then (e ρ1 S1).calm.bind fun y S2 => (lcL t q e ρ ds S2).bind fun ys S3 => .ok (y :: ys) S3 else lcL t q e ρ ds S1
    | none => .bad := (rfl)
/-! values -/
variable (i j : Int) (x y : Str) (xs ys : List D) (b c : Bool)
@[simp] theorem gSub_i : gSub (.int i) (.int j) S = .ok (.int (i - j)) S := (rfl)
@[simp] theorem gAnd_i : gAnd (.int i) (.int j) S = .ok (.int (Builtin.bitAnd i j)) S := (rfl)
@[simp] theorem gOr_i : gOr (.int i) (.int j) S = .ok (.int (Builtin.bitOr i j)) S := (rfl)
@[simp] theorem gXor_i : gXor (.int i) (.int j) S = .ok (.int (Builtin.bitXor i j)) S := (rfl)
@[simp] theorem gFdiv_i : gFdiv (.int i) (.int j) S = if 0 < j ∧ j < 1073741824 then .ok (.int (i / j)) S else .bad := (rfl)
@[simp] theorem gMod_i : gMod (.int i) (.int j) S = if 0 < j then .ok (.int (i % j)) S else .bad := (rfl)
@[simp] theorem gPow_i : gPow (.int i) (.int j) S = if 0 ≤ j ∧ j ≤ 1000000 ∧ i.natAbs < 18446744073709551616 then .ok (.int (i ^ j.toNat)) S else .bad := (rfl)
@[simp] theorem gShl_i : gShl (.int i) (.int j) S = if 0 ≤ j ∧ j ≤ 1000000 ∧ i.natAbs < 18446744073709551616 then .ok (.int (i * 2 ^ j.toNat)) S else .bad := (rfl)
@[simp] theorem gShr_i : gShr (.int i) (.int j) S = if 0 ≤ j then .ok (.int (i / 2 ^ j.toNat)) S else .bad := (rfl)
@[simp] theorem gLt_i : gLt (.int i) (.int j) S = .ok (.bl (decide (i < j))) S := (rfl)
@[simp] theorem gLe_i : gLe (.int i) (.int j) S = .ok (.bl (decide (i ≤ j))) S := (rfl)
@[simp] theorem gGt_i : gGt (.int i) (.int j) S = .ok (.bl (decide (j < i))) S := (rfl)
@[simp] theorem gGe_i : gGe (.int i) (.int j) S = .ok (.bl (decide (j ≤ i))) S := (rfl)
@[simp] theorem gAdd_i : gAdd (.int i) (.int j) S = .ok (.int (i + j)) S := (rfl)
@[simp] theorem gAdd_s : gAdd (.str x) (.str y) S = if x.length + y.length ≤ 16000000 then .ok (.str (x ++ y)) S else .bad := (rfl)
@[simp] theorem gAdd_l : gAdd (.lst xs) (.lst ys) S = if xs.length + ys.length ≤ 16000000 then .ok (.lst (xs ++ ys)) S else .bad := (rfl)
@[simp] theorem gAdd_t : gAdd (.tup xs) (.tup ys) S = if xs.length + ys.length ≤ 16000000 then .ok (.tup (xs ++ ys)) S else .bad := (rfl)
@[simp] theorem gIAdd_i : gIAdd (.int i) (.int j) S = .ok (.int (i + j)) S := (rfl)
@[simp] theorem gIAdd_s : gIAdd (.str x) (.str y) S = if x.length + y.length ≤ 16000000 then .ok (.str (x ++ y)) S else .bad := (rfl)
@[simp] theorem gMul_i : gMul (.int i) (.int j) S = if i.natAbs < 18446744073709551616 ∨ j.natAbs < 18446744073709551616 then .ok (.int (i * j)) S else .bad := (rfl)
@[simp] theorem gMul_l : gMul (.lst xs) (.int j) S = if 0 ≤ j ∧ j ≤ 100000 ∧ xs.length * j.toNat ≤ 16000000 then .ok (.lst (List.replicate j.toNat xs).flatten) S else .bad := (rfl)
@[simp] theorem gMul_t : gMul (.tup xs) (.int j) S = if xs ≠ [] ∧ 2 ≤ j ∧ j ≤ 1000 ∧ xs.length ≤ 1000 then .ok (.tup (List.replicate j.toNat xs).flatten) S else .bad := (rfl)
@[simp] theorem gEq_i : gEq (.int i) (.int j) S = .ok (.bl (decide (i = j))) S := (rfl)
@[simp] theorem gEq_b : gEq (.bl b) (.bl c) S = .ok (.bl (decide (b = c))) S := (rfl)
@[simp] theorem gEq_s : gEq (.str x) (.str y) S = .ok (.bl (decide (x = y))) S := (rfl)
@[simp] theorem gNe_i : gNe (.int i) (.int j) S = .ok (.bl (!decide (i = j))) S := (rfl)
@[simp] theorem gNe_b : gNe (.bl b) (.bl c) S = .ok (.bl (!decide (b = c))) S := (rfl)
@[simp] theorem gNe_s : gNe (.str x) (.str y) S = .ok (.bl (!decide (x = y))) S := (rfl)
@[simp] theorem gEq_is : gEq (.int i) (.str y) S = .ok (.bl false) S := (rfl)
@[simp] theorem gEq_si : gEq (.str x) (.int j) S = .ok (.bl false) S := (rfl)
@[simp] theorem gEq_ni : gEq .non (.int j) S = .ok (.bl false) S := (rfl)
@[simp] theorem gEq_ns : gEq .non (.str y) S = .ok (.bl false) S := (rfl)
@[simp] theorem gEq_nb : gEq .non (.bl b) S = .ok (.bl false) S := (rfl)
@[simp] theorem gEq_in : gEq (.int i) .non S = .ok (.bl false) S := (rfl)
@[simp] theorem gEq_sn : gEq (.str x) .non S = .ok (.bl false) S := (rfl)
@[simp] theorem gEq_bn : gEq (.bl b) .non S = .ok (.bl false) S := (rfl)
@[simp] theorem gEq_bs : gEq (.bl b) (.str y) S = .ok (.bl false) S := (rfl)
@[simp] theorem gEq_sb : gEq (.str x) (.bl b) S = .ok (.bl false) S := (rfl)
@[simp] theorem gNe_is : gNe (.int i) (.str y) S = .ok (.bl true) S := (rfl)
@[simp] theorem gNe_si : gNe (.str x) (.int j) S = .ok (.bl true) S := (rfl)
@[simp] theorem gNe_ni : gNe .non (.int j) S = .ok (.bl true) S := (rfl)
@[simp] theorem gNe_ns : gNe .non (.str y) S = .ok (.bl true) S := (rfl)
@[simp] theorem gNe_nb : gNe .non (.bl b) S = .ok (.bl true) S := (rfl)
@[simp] theorem gNe_in : gNe (.int i) .non S = .ok (.bl true) S := (rfl)
@[simp] theorem gNe_sn : gNe (.str x) .non S = .ok (.bl true) S := (rfl)
@[simp] theorem gNe_bn : gNe (.bl b) .non S = .ok (.bl true) S := (rfl)
@[simp] theorem gNe_bs : gNe (.bl b) (.str y) S = .ok (.bl true) S := (rfl)
@[simp] theorem gNe_sb : gNe (.str x) (.bl b) S = .ok (.bl true) S := (rfl)
theorem gEq_gen (d e : D) (h : ∀ S, gEq d e S = if SeqAt.shaped d.toP && SeqAt.shaped e.toP then .ok (.bl (PyData.eqv d.toP e.toP)) S else .bad) (hd : SeqAt.shaped d.toP = true) (he : SeqAt.shaped e.toP = true) : gEq d e S = .ok (.bl (PyData.eqv d.toP e.toP)) S := by
  rw [h]; simp [hd, he]
theorem gEq_ll : gEq (.lst xs) (.lst ys) S = if SeqAt.shaped (D.toP (.lst xs)) && SeqAt.shaped (D.toP (.lst ys)) then .ok (.bl (PyData.eqv (D.toP (.lst xs)) (D.toP (.lst ys)))) S else .bad := (rfl)
theorem gEq_tt : gEq (.tup xs) (.tup ys) S = if SeqAt.shaped (D.toP (.tup xs)) && SeqAt.shaped (D.toP (.tup ys)) then .ok (.bl (PyData.eqv (D.toP (.tup xs)) (D.toP (.tup ys)))) S else .bad := (rfl)
@[simp] theorem gIsN_eq (d : D) : gIsN d .non S = .ok (.bl d.isNon) S := by cases d <;> rfl
@[simp] theorem gNotN_eq (d : D) : gNotN d .non S = .ok (.bl (!d.isNon)) S := by cases d <;> rfl
@[simp] theorem isNon_non : D.non.isNon = true := (rfl)
@[simp] theorem isNon_int : (D.int i).isNon = false := (rfl)
@[simp] theorem isNon_bl : (D.bl b).isNon = false := (rfl)
@[simp] theorem isNon_str : (D.str x).isNon = false := (rfl)
@[simp] theorem isNon_tup : (D.tup xs).isNon = false := (rfl)
@[simp] theorem isNon_lst : (D.lst xs).isNon = false := (rfl)
@[simp] theorem isNon_rol : (D.rol xs).isNon = false := (rfl)
@[simp] theorem isNon_ref (l n : Nat) : (D.ref l n).isNon = false := (rfl)
@[simp] theorem gNeg_i : gNeg (.int i) S = .ok (.int (-i)) S := (rfl)
@[simp] theorem tru_b : tru (.bl b) S = .ok b S := (rfl)
@[simp] theorem tru_i : tru (.int i) S = .ok (i != 0) S := (rfl)
@[simp] theorem tru_n : tru .non S = .ok false S := (rfl)
@[simp] theorem tru_t : tru (.tup xs) S = .ok (!xs.isEmpty) S := (rfl)
@[simp] theorem tru_l : tru (.lst xs) S = .ok (!xs.isEmpty) S := (rfl)
@[simp] theorem tru_ro : tru (.rol xs) S = .ok (!xs.isEmpty) S := (rfl)
@[simp] theorem gIx_t : gIx (.tup xs) (.int i) S = match atI xs i with | some d => .ok d S | none => .bad := (rfl)
@[simp] theorem gIx_l : gIx (.lst xs) (.int i) S = match atI xs i with | some d => .ok d S | none => .bad := (rfl)
@[simp] theorem gIx_ro : gIx (.rol xs) (.int i) S = match atI xs i with | some d => .ok d S | none => .bad := (rfl)
@[simp] theorem gIx_r (l n : Nat) : gIx (.ref l n) (.int i) S = match look S l n with
    | some (.lst xs) => match atI xs i with
      | some d => .ok d S
      | none => .bad
    | _ => .bad := (rfl)
@[simp] theorem gSl_t (lo hi : Option Int) : gSl (.tup xs) lo hi S = .ok (.tup (cutL xs lo hi)) S := (rfl)
@[simp] theorem gSl_l (lo hi : Option Int) : gSl (.lst xs) lo hi S = .ok (.lst (cutL xs lo hi)) S := (rfl)
@[simp] theorem gSl_ro (lo hi : Option Int) : gSl (.rol xs) lo hi S = .ok (.lst (cutL xs lo hi)) S := (rfl)
@[simp] theorem gLen_t : gLen [.tup xs] S = .ok (.int xs.length) S := (rfl)
@[simp] theorem gLen_l : gLen [.lst xs] S = .ok (.int xs.length) S := (rfl)
@[simp] theorem gLen_ro : gLen [.rol xs] S = .ok (.int xs.length) S := (rfl)
@[simp] theorem gLen_r (l n : Nat) : gLen [.ref l n] S = match look S l n with
    | some (.lst xs) => .ok (.int xs.length) S
    | _ => .bad := (rfl)
@[simp] theorem gAbs_i : gAbs [.int i] S = .ok (.int (if i < 0 then -i else i)) S := (rfl)
@[simp] theorem gInt_i : gInt [.int i] S = .ok (.int i) S := (rfl)
@[simp] theorem gInt_b : gInt [.bl b] S = .ok (.int (if b then 1 else 0)) S := (rfl)
@[simp] theorem gTuple_t : gTuple [.tup xs] S = .ok (.tup xs) S := (rfl)
@[simp] theorem gTuple_l : gTuple [.lst xs] S = .ok (.tup xs) S := (rfl)
@[simp] theorem gTuple_ro : gTuple [.rol xs] S = .ok (.tup xs) S := (rfl)
@[simp] theorem gList_t : gList [.tup xs] S = .ok (.lst xs) S := (rfl)
@[simp] theorem gList_l : gList [.lst xs] S = .ok (.lst xs) S := (rfl)
@[simp] theorem gList_ro : gList [.rol xs] S = .ok (.lst xs) S := (rfl)
theorem gSum_l {ns : List Int} (h : toInts xs = some ns) : gSum [.lst xs] S = .ok (.int ns.sum) S := by simp [gSum, gFold, h]
theorem gAll_l {ns : List Bool} (h : toBls xs = some ns) : gAll [.lst xs] S = .ok (.bl (ns.all id)) S := by simp [gAll, gFold, h]
theorem gAny_l {ns : List Bool} (h : toBls xs = some ns) : gAny [.lst xs] S = .ok (.bl (ns.any id)) S := by simp [gAny, gFold, h]
@[simp] theorem atI_0 {α : Type} (d : α) (ds : List α) : atI (d :: ds) 0 = some d := by simp [atI, ixN]
theorem atI_nn {α : Type} {xs : List α} {i : Int} (h : 0 ≤ i) : atI xs i = xs[i.toNat]? := by
  unfold atI ixN
  by_cases h2 : i < xs.length
  · simp [h, h2]
  · simp [h, h2]
    try omega
@[simp] theorem leave_nil (d : D) : leave d ([] :: S) = .ok d S := (rfl)
theorem leave_flat (d : D) (r : List O) (h : ∀ n l, D.fz r l (n + 1) d = some d) : leave d (r :: S) = .ok d S := by
  cases r with
  | nil => rfl
  | cons o r =>
    have e : D.fz (o :: r) S.length 40 d = some d := h 39 S.length
    simp only [leave, e]
@[simp] theorem leave_int (r : List O) : leave (.int i) (r :: S) = .ok (.int i) S := leave_flat _ _ _ fun _ _ => rfl
@[simp] theorem leave_bl (r : List O) : leave (.bl b) (r :: S) = .ok (.bl b) S := leave_flat _ _ _ fun _ _ => rfl
@[simp] theorem leave_non (r : List O) : leave .non (r :: S) = .ok .non S := leave_flat _ _ _ fun _ _ => rfl
@[simp] theorem leave_str (r : List O) : leave (.str x) (r :: S) = .ok (.str x) S := leave_flat _ _ _ fun _ _ => rfl
theorem runF_eq (n : Nat) (body : CS) (args : List D) : runF n body args S = match body (args.map some ++ List.replicate (n - args.length) none) ([] :: S) with
  | .nx _ S' => leave .non S'
  | .ret d S' => leave d S'
  | .err x _ S' => leaveX x S'
  | _ => .bad := (rfl)
end
@[simp] theorem les_ints (l : Nat) : ∀ ns : List Int, D.les l (ns.map D.int) = true
  | [] => rfl
  | n :: ns => by simp [D.les, D.le, les_ints l ns]
/-! ### comprehensions that leave the store -/
theorem lc_filter (i : Nat) (q : CT) (e : C) (ρ : Ro) (S : Sto) (p : D → Bool) (f : D → D) : ∀ ds : List D, (∀ d ∈ ds, q (ρ.set i (some d)) S = .ok (p d) S) → (∀ d ∈ ds, p d = true → e (ρ.set i (some d)) S = .ok (f d) S) →
    lcL (tgN i) q e ρ ds S = .ok ((ds.filter p).map f) S
  | [], _, _ => rfl
  | d :: ds, h1, h2 => by
    have ih := lc_filter i q e ρ S p f ds (fun x hx => h1 x (List.mem_cons_of_mem _ hx)) (fun x hx => h2 x (List.mem_cons_of_mem _ hx))
    rw [lcL_cons]
    simp only [tgN_eq, h1 d List.mem_cons_self, R.calm_ok, R.bind_ok]
    cases hp : p d with
    | true => simp [h2 d List.mem_cons_self hp, ih, List.filter_cons, hp]
    | false => simp [ih, List.filter_cons, hp]
theorem lc_map (i : Nat) (e : C) (ρ : Ro) (S : Sto) (f : D → D) (ds : List D) (h : ∀ d ∈ ds, e (ρ.set i (some d)) S = .ok (f d) S) : lcL (tgN i) ctYes e ρ ds S = .ok (ds.map f) S := by
  have := lc_filter i ctYes e ρ S (fun _ => true) f ds (fun _ _ => rfl) (fun d hd _ => h d hd)
  rw [this]
  congr 2
  exact List.filter_eq_self.mpr fun _ _ => rfl
theorem lc_rng (i : Nat) (e : C) (ρ : Ro) (S : Sto) (lo : Int) (n : Nat) (f : Nat → D) (h : ∀ k, k < n → e (ρ.set i (some (.int (lo + (k : Int))))) S = .ok (f k) S) : lcL (tgN i) ctYes e ρ (rngD lo n) S = .ok ((List.range n).map f) S := by
  have go : ∀ ks : List Nat, (∀ k ∈ ks, e (ρ.set i (some (.int (lo + (k : Int))))) S = .ok (f k) S) → lcL (tgN i) ctYes e ρ (ks.map fun (k : Nat) => D.int (lo + (k : Int))) S = .ok (ks.map f) S := by
    intro ks
    induction ks with
    | nil => intro _; rfl
    | cons k ks ih =>
      intro hk
      rw [List.map_cons, lcL_cons]
      simp [hk k List.mem_cons_self, ih fun x hx => hk x (List.mem_cons_of_mem _ hx)]
  exact go (List.range n) fun k hk => h k (List.mem_range.mp hk)
theorem lc_rngF (i : Nat) (q : CT) (e : C) (ρ : Ro) (S : Sto) (lo : Int) (n : Nat) (p : Nat → Bool) (f : Nat → D) (hq : ∀ k, k < n → q (ρ.set i (some (.int (lo + (k : Int))))) S = .ok (p k) S) (h : ∀ k, k < n → p k = true → e (ρ.set i (some (.int (lo + (k : Int))))) S = .ok (f k) S) :
    lcL (tgN i) q e ρ (rngD lo n) S = .ok (((List.range n).filter p).map f) S := by
  have go : ∀ ks : List Nat, (∀ k ∈ ks, q (ρ.set i (some (.int (lo + (k : Int))))) S = .ok (p k) S) → (∀ k ∈ ks, p k = true → e (ρ.set i (some (.int (lo + (k : Int))))) S = .ok (f k) S) → lcL (tgN i) q e ρ (ks.map fun (k : Nat) => D.int (lo + (k : Int))) S = .ok ((ks.filter p).map f) S := by
    intro ks
    induction ks with
    | nil => intro _ _; rfl
    | cons k ks ih =>
      intro h1 h2
      have := ih (fun x hx => h1 x (List.mem_cons_of_mem _ hx)) (fun x hx => h2 x (List.mem_cons_of_mem _ hx))
      rw [List.map_cons, lcL_cons]
      simp only [tgN_eq, h1 k List.mem_cons_self, R.calm_ok, R.bind_ok]
      cases hp : p k with
      | true => simp [h2 k List.mem_cons_self hp, this, List.filter_cons, hp]
      | false => simp [this, List.filter_cons, hp]
  exact go (List.range n) (fun k hk => hq k (List.mem_range.mp hk)) (fun k hk => h k (List.mem_range.mp hk))
@[simp] theorem rngD_len (lo : Int) (n : Nat) : (rngD lo n).length = n := rngD_length lo n
/-! ### slices -/
section
variable {α : Type} (xs : List α)
theorem cutL_from (k : Nat) : cutL xs (some (k : Int)) none = xs.drop k := by
  unfold cutL
  rw [HT.sIx_nat, HT.sIx_none]
  by_cases h : k ≤ xs.length
  · rw [Nat.min_eq_left h]
    exact List.take_of_length_le (by rw [List.length_drop]; omega)
  · rw [List.drop_of_length_le (by omega), List.drop_of_length_le (by omega)]
    simp
theorem cutL_to (k : Nat) : cutL xs none (some (k : Int)) = xs.take k := by
  unfold cutL
  rw [HT.sIx_nat, HT.sIx_none, List.drop_zero, Nat.sub_zero]
  by_cases h : k ≤ xs.length
  · rw [Nat.min_eq_left h]
  · rw [Nat.min_eq_right (by omega), List.take_of_length_le (Nat.le_refl _), List.take_of_length_le (by omega)]
theorem cutL_both (j k : Nat) : cutL xs (some (j : Int)) (some (k : Int)) = (xs.take k).drop j := by
  unfold cutL
  rw [HT.sIx_nat, HT.sIx_nat]
  by_cases hj : j ≤ xs.length
  · rw [Nat.min_eq_left hj, List.drop_take]
    by_cases h : k ≤ xs.length
    · rw [Nat.min_eq_left h]
    · rw [Nat.min_eq_right (by omega), List.take_of_length_le (by rw [List.length_drop]; omega), List.take_of_length_le (by rw [List.length_drop]; omega)]
  · have e : min j xs.length = xs.length := by omega
    have e2 : List.drop j (List.take k xs) = [] := List.drop_of_length_le (by rw [List.length_take]; omega)
    rw [e, e2, List.drop_of_length_le (Nat.le_refl _)]
    simp
theorem cutL_all : cutL xs none none = xs := by
  unfold cutL
  rw [HT.sIx_none, HT.sIx_none]
  simp
theorem cutL_last : cutL xs none (some (-1)) = xs.dropLast := by
  unfold cutL
  rw [HT.sIx_none, List.dropLast_eq_take]
  have : HT.sIx xs.length xs.length (some (-1)) = xs.length - 1 := by
    unfold HT.sIx
    simp only [show (-1 : Int) < 0 from by decide, if_true]
    omega
  rw [this]
  simp
@[simp] theorem cutL_from1 : cutL xs (some 1) none = xs.drop 1 := cutL_from xs 1
@[simp] theorem cutL_from2 : cutL xs (some 2) none = xs.drop 2 := cutL_from xs 2
@[simp] theorem cutL_to1 : cutL xs none (some 1) = xs.take 1 := cutL_to xs 1
end
end MP

/-! MP: what the laws' own helpers mean. -/
namespace MP
open PySem PySem.Spec PyProof.Rows L2
/-- _law_same(told, due) -/
def c_same (self : Sem') : CS :=
  (cSeq (cIfS (cTB (cB gIsN (cV 1) (cK .non))) (cRet (cB gIsN (cV 0) (cK .non))) cNext)
    (cSeq (cIfS (cT (cCall gIsi (caCons (cV 1) (caCons (cK (.ty "bool")) caNil)))) (cRet (cAnd (cCall gIsi (caCons (cV 0) (caCons (cK (.ty "bool")) caNil))) (cB gEq (cV 0) (cV 1)))) cNext)
    (cSeq (cIfS (cT (cCall gIsi (caCons (cV 1) (caCons (cK (.ty "int")) caNil)))) (cRet (cAnd (cCall gIsi (caCons (cV 0) (caCons (cK (.ty "int")) caNil))) (cAnd (cNot (cCall gIsi (caCons (cV 0) (caCons (cK (.ty "bool")) caNil)))) (cB gEq (cV 0) (cV 1))))) cNext)
    (cSeq (cIfS (cT (cCall gIsi (caCons (cV 1) (caCons (cK (.ty "str")) caNil)))) (cRet (cAnd (cCall gIsi (caCons (cV 0) (caCons (cK (.ty "str")) caNil))) (cB gEq (cV 0) (cV 1)))) cNext)
    (cSeq (cIfS (tOr (tAnd (cT (cCall gIsi (caCons (cV 1) (caCons (cK (.ty "list")) caNil)))) (tNot (cT (cCall gIsi (caCons (cV 0) (caCons (cK (.ty "list")) caNil)))))) (tAnd (cT (cCall gIsi (caCons (cV 1) (caCons (cK (.ty "tuple")) caNil)))) (tNot (cT (cCall gIsi (caCons (cV 0) (caCons (cK (.ty "tuple")) caNil))))))) (cRet (cK (.bl false))) cNext)
    (cRet (cAnd (cB gEq (cCall gLen (caCons (cV 0) caNil)) (cCall gLen (caCons (cV 1) caNil))) (cB gEq (cLc (ciR1 (caCons (cCall gLen (caCons (cV 1) caNil)) caNil)) (tgN 2) (tNot (cT (cCall self (caCons (cB gIx (cV 0) (cV 2)) (caCons (cB gIx (cV 1) (cV 2)) caNil))))) (cK (.int 1)) [2]) (cLst caNil)))))))))
def m_same : Nat → Sem'
  | 0 => fun _ _ => .bad
  | k + 1 => runF 3 (c_same (m_same k))

mutual
/-- of one kind and equal, also within: depth below n, no changeable thing within -/
def D.flat : Nat → D → Bool
  | 0, _ => false
  | n + 1, d => match d with
    | .non => true
    | .bl _ => true
    | .int _ => true
    | .str _ => true
    | .tup xs => decide (xs.length ≤ 16000000) && D.flats n xs
    | .lst xs => decide (xs.length ≤ 16000000) && D.flats n xs
    | _ => false
def D.flats : Nat → List D → Bool
  | _, [] => true
  | n, x :: xs => D.flat n x && D.flats n xs
end
theorem flats_mem : ∀ {n : Nat} {xs : List D}, D.flats n xs = true → ∀ d ∈ xs, D.flat n d = true
  | n, x :: xs, h, d, hd => by
    simp only [D.flats, Bool.and_eq_true] at h
    rcases List.mem_cons.mp hd with e | e
    · subst e; exact h.1
    · exact flats_mem h.2 d e
@[simp] theorem shaped_lnil : SeqAt.shaped (D.toP (.lst [])) = true := by decide +kernel
@[simp] theorem shaped_tnil : SeqAt.shaped (D.toP (.tup [])) = true := by decide +kernel
@[simp] theorem shaped_l0 : SeqAt.shaped (PyData.list []) = true := by decide +kernel
@[simp] theorem shaped_t0 : SeqAt.shaped (PyData.tuple []) = true := by decide +kernel
@[simp] theorem gEq_lnil (S : Sto) : gEq (.lst []) (.lst []) S = .ok (.bl true) S := by
  rw [gEq_ll]; simp [D.toP, D.toPs, PyData.eqv, PyData.eqvAll]
theorem same_refl : ∀ (n : Nat) (d : D) (S : Sto), D.flat n d = true → m_same n [d, d] S = .ok (.bl true) S := by
  intro n
  induction n with
  | zero => intro d S h; simp [D.flat] at h
  | succ n ih =>
    intro d S h
    have seq : ∀ xs : List D, D.flats n xs = true → ∀ (x : D), (∀ (k : Nat) S (hk : k < xs.length), gIx x (.int (k : Int)) S = .ok xs[k] S) →
        lcL (tgN 2) (tNot (cT (cCall (m_same n) (caCons (cB gIx (cV 0) (cV 2)) (caCons (cB gIx (cV 1) (cV 2)) caNil))))) (cK (.int 1)) [some x, some x, none] (rngD 0 xs.length) ([] :: S) = .ok [] ([] :: S) := by
      intro xs hx x hi
      rw [lc_rngF (p := fun _ => false) (f := fun _ => .int 1)]
      · simp
      · intro k hk
        have e := hi k ([] :: S) hk
        have := ih xs[k] ([] :: S) (flats_mem hx _ (List.getElem_mem hk))
        simp [e, this]
      · intro k _ h; cases h
    show runF 3 (c_same (m_same n)) [d, d] S = _
    rw [runF_eq]
    cases d with
    | non => simp [c_same]
    | bl b => simp [c_same]
    | int i => simp [c_same]
    | str x => simp [c_same]
    | ty m => simp [D.flat] at h
    | ref l m => simp [D.flat] at h
    | rol xs => simp [D.flat] at h
    | box b xs => simp [D.flat] at h
    | tup xs =>
      simp only [D.flat, Bool.and_eq_true, decide_eq_true_eq] at h
      have q := seq xs h.2 (.tup xs) (fun k S hk => by simp [atI_nn, hk])
      have h2 : (-16000000 : Int) ≤ xs.length := by omega
      have h3 : (xs.length : Int) ≤ 16000000 := by omega
      simp [c_same, q, h.1, h2, h3]
    | lst xs =>
      simp only [D.flat, Bool.and_eq_true, decide_eq_true_eq] at h
      have q := seq xs h.2 (.lst xs) (fun k S hk => by simp [atI_nn, hk])
      have h2 : (-16000000 : Int) ≤ xs.length := by omega
      have h3 : (xs.length : Int) ≤ 16000000 := by omega
      simp [c_same, q, h.1, h2, h3]
end MP

/-! MP: how the newer meanings are reckoned (simp): dicts, texts, exceptions; _law_same over them. -/
namespace MP
open PySem PySem.Spec PyProof.Rows L2
/-- the text of these signs -/
abbrev tx (l : List Nat) : Str := ⟨l.toArray⟩
section
variable (S : Sto) (ρ : Ro)
@[simp] theorem cSetA_eq (o i e : C) : cSetA o i e ρ S = .of ρ (e ρ S) fun d S => .of ρ (o ρ S) fun x S => .of ρ (i ρ S) fun k S => match x with
  | .ref l n => match look S l n with
    | some (.lst xs) => match k with
      | .int j => match ixN xs.length j with
        | some m => if D.les l (xs.set m d) = true then .nx ρ (put S l n (.lst (xs.set m d))) else .bad
        | none => .bad
      | _ => .bad
    | some (.box (.dK ks) ds) => match k.key with
      | some κ => if ks.length < 16000000 ∧ D.les l (putA ks ds κ d) = true then .nx ρ (put S l n (.box (.dK (putKs ks κ)) (putA ks ds κ d))) else .bad
      | none => .bad
    | _ => .bad
  | _ => .bad := (rfl)
@[simp] theorem cGet2_eq (o k e : C) : cGet2 o k e ρ S = (o ρ S).bind fun x S => match x.dict S with
  | some _ => (k ρ S).bind fun y S => (e ρ S).bind fun z S => match x.dict S with
    | some (ks, ds) => match y.key with
      | some κ => .ok ((getA ks ds κ).getD z) S
      | none => .bad
    | none => .bad
  | none => .bad := (rfl)
@[simp] theorem cMeth_eq (T : String) (g : GM) (o : C) (a : CA) : cMeth T g o a ρ S = (o ρ S).bind fun x S => if x.isT T S = true then (a ρ S).bind fun ds S => g x ds S else .bad := (rfl)
@[simp] theorem cTget_eq (t : List (Str × D)) (c : C) : cTget t c ρ S = (c ρ S).bind fun d S => match d with
  | .str x => match tabGet t x with
    | some v => .ok v S
    | none => .bad
  | _ => .bad := (rfl)
@[simp] theorem cTg1_eq (t : List (Str × D)) (c : C) : cTg1 t c ρ S = (c ρ S).bind fun d S => match d with
  | .str x => .ok ((tabGet t x).getD .non) S
  | _ => .bad := (rfl)
@[simp] theorem cTg2_eq (t : List (Str × D)) (c e : C) : cTg2 t c e ρ S = (c ρ S).bind fun d S => (e ρ S).bind fun y S => match d with
  | .str x => .ok ((tabGet t x).getD y) S
  | _ => .bad := (rfl)
@[simp] theorem ciIt_eq (c : C) : ciIt c ρ S = (c ρ S).bind fun d S => match d with
  | .tup ds => .ok ds S
  | .lst ds => .ok ds S
  | .rol ds => .ok ds S
  | .str x => .ok (signsD x) S
  | _ => .bad := (rfl)
@[simp] theorem cForA_eq (c : C) (t : Tg) (body : CS) : cForA c t body ρ S = .of ρ (c ρ S) fun d S => match d with
  | .ref l n => forI l n t body 16000001 0 ρ S
  | .tup ds => forL t body ds ρ S
  | .lst ds => forL t body ds ρ S
  | .rol ds => forL t body ds ρ S
  | .str x => forL t body (signsD x) ρ S
  | _ => .bad := (rfl)
@[simp] theorem cRaise_eq (nm : Str) (c : C) : cRaise nm c ρ S = .of ρ (c ρ S) fun d S => .err ⟨nm, [("name", .str nm), ("place", d)]⟩ ρ S := (rfl)
@[simp] theorem cTry_eq (errs : List Str) (sub : Str → Str → Bool) (b : CS) (hs : List (Str × Option Nat × (Exn → CS))) : cTry errs sub b hs ρ S = match b ρ S with
  | .err x ρ' S' => hdL errs sub hs x ρ' S'
  | r => r := (rfl)
@[simp] theorem cBoolSel_eq (x y : Str) (c : C) : cBoolSel x y c ρ S = (c ρ S).bind fun d S => match d with
  | .bl b => .ok (.str (if b then x else y)) S
  | _ => .bad := (rfl)
@[simp] theorem cDisp_eq (l : List (C × C)) : cDisp l ρ S = (dpL l ρ S).bind fun ps S => match mkD ps [] [] with
  | some (ks, ds) => .ok (.box (.dK ks) ds) S
  | none => .bad := (rfl)
@[simp] theorem dpL_nil : dpL [] ρ S = .ok [] S := (rfl)
@[simp] theorem dpL_cons (k v : C) (r : List (C × C)) : dpL ((k, v) :: r) ρ S = (k ρ S).bind fun x S => (v ρ S).bind fun y S => (dpL r ρ S).bind fun ps S => .ok ((x, y) :: ps) S := (rfl)
end
section
variable (S : Sto) (x y : D) (i j : Int) (b : Bool) (s z : Str) (xs : List D) (l n : Nat)
@[simp] theorem isRef_non : D.non.isRef = false := (rfl)
@[simp] theorem isRef_bl : (D.bl b).isRef = false := (rfl)
@[simp] theorem isRef_int : (D.int i).isRef = false := (rfl)
@[simp] theorem isRef_str : (D.str s).isRef = false := (rfl)
@[simp] theorem isRef_tup : (D.tup xs).isRef = false := (rfl)
@[simp] theorem isRef_lst : (D.lst xs).isRef = false := (rfl)
@[simp] theorem isRef_rol : (D.rol xs).isRef = false := (rfl)
@[simp] theorem gEqA_of (h : x.isRef = false) (h2 : y.isRef = false) : gEqA x y S = gEq x y S := by simp [gEqA, h, h2]
@[simp] theorem gNeA_of (h : x.isRef = false) (h2 : y.isRef = false) : gNeA x y S = gNe x y S := by simp [gNeA, h, h2]
@[simp] theorem gAddA_i : gAddA (.int i) y S = gAdd (.int i) y S := (rfl)
@[simp] theorem gAddA_s : gAddA (.str s) y S = gAdd (.str s) y S := (rfl)
@[simp] theorem gAddA_t : gAddA (.tup xs) y S = gAdd (.tup xs) y S := (rfl)
@[simp] theorem gAddA_l (ys : List D) : gAddA (.lst xs) (.lst ys) S = if xs.length + ys.length ≤ 16000000 then .ok (.lst (xs ++ ys)) S else .bad := (rfl)
@[simp] theorem gIAddA_i : gIAddA (.int i) y S = gIAdd (.int i) y S := (rfl)
@[simp] theorem gIAddA_s : gIAddA (.str s) y S = gIAdd (.str s) y S := (rfl)
@[simp] theorem dict_non : D.non.dict S = none := (rfl)
@[simp] theorem dict_bl : (D.bl b).dict S = none := (rfl)
@[simp] theorem dict_int : (D.int i).dict S = none := (rfl)
@[simp] theorem dict_str : (D.str s).dict S = none := (rfl)
@[simp] theorem dict_tup : (D.tup xs).dict S = none := (rfl)
@[simp] theorem dict_lst : (D.lst xs).dict S = none := (rfl)
@[simp] theorem dict_rol : (D.rol xs).dict S = none := (rfl)
@[simp] theorem dict_box (ks : List Key) : (D.box (.dK ks) xs).dict S = some (ks, xs) := (rfl)
@[simp] theorem dict_ref : (D.ref l n).dict S = match look S l n with
    | some (.box (.dK ks) ds) => some (ks, ds)
    | _ => none := (rfl)
@[simp] theorem gLenA_of (h : x.dict S = none) : gLenA [x] S = gLen [x] S := by simp [gLenA, h]
@[simp] theorem gItem_of (h : x.dict S = none) : gItem x y S = gIx x y S := by simp [gItem, h]
@[simp] theorem gMem_of (h : y.dict S = none) : gMem x y S = gIn x y S := by simp [gMem, h]
@[simp] theorem gNotMem_of (h : y.dict S = none) : gNotMem x y S = gNotIn x y S := by simp [gNotMem, h]
@[simp] theorem gItem_box (ks : List Key) : gItem (.box (.dK ks) xs) y S = match y.key with
    | some κ => match getA ks xs κ with
      | some d => .ok d S
      | none => .bad
    | none => .bad := (rfl)
@[simp] theorem gIntA_i : gIntA [.int i] S = .ok (.int i) S := (rfl)
@[simp] theorem gIntA_b : gIntA [.bl b] S = .ok (.int (if b then 1 else 0)) S := (rfl)
theorem gIntA_s {n : Int} (h : PySem.intText? s = some n) (hl : s.length ≤ 640) : gIntA [.str s] S = .ok (.int n) S := by simp [gIntA, gIntS, h, hl]
@[simp] theorem gLtA_i (j : Int) : gLtA (.int i) (.int j) S = gLt (.int i) (.int j) S := (rfl)
@[simp] theorem gLtA_ib (b : Bool) : gLtA (.int i) (.bl b) S = .ok (.bl (decide (i < b2i b))) S := (rfl)
@[simp] theorem gLtA_bi (b : Bool) (j : Int) : gLtA (.bl b) (.int j) S = .ok (.bl (decide (b2i b < j))) S := (rfl)
@[simp] theorem b2i_t : b2i true = 1 := (rfl)
@[simp] theorem b2i_f : b2i false = 0 := (rfl)
@[simp] theorem gLeA_i : gLeA (.int i) y S = gLe (.int i) y S := (rfl)
@[simp] theorem gGtA_i : gGtA (.int i) y S = gGt (.int i) y S := (rfl)
@[simp] theorem gGeA_i : gGeA (.int i) y S = gGe (.int i) y S := (rfl)
@[simp] theorem gLtA_s : gLtA (.str s) (.str z) S = .ok (.bl (decide (s.cps.toList < z.cps.toList))) S := (rfl)
@[simp] theorem gLeA_s : gLeA (.str s) (.str z) S = .ok (.bl (!decide (z.cps.toList < s.cps.toList))) S := (rfl)
@[simp] theorem gGtA_s : gGtA (.str s) (.str z) S = .ok (.bl (decide (z.cps.toList < s.cps.toList))) S := (rfl)
@[simp] theorem gGeA_s : gGeA (.str s) (.str z) S = .ok (.bl (!decide (s.cps.toList < z.cps.toList))) S := (rfl)
@[simp] theorem key_int : (D.int i).key = some (.inl i) := (rfl)
@[simp] theorem key_str : (D.str s).key = some (.inr s) := (rfl)
@[simp] theorem isT_str : (D.str s).isT "str" S = true := (rfl)
@[simp] theorem gSl_s (lo hi : Option Int) : gSl (.str s) lo hi S = if s.length ≤ 16000000 then .ok (.str (cutS s lo hi)) S else .bad := (rfl)
@[simp] theorem gIx_s : gIx (.str s) (.int i) S = if s.length ≤ 16000000 then match atI s.cps.toList i with
    | some c => .ok (.str ⟨#[c]⟩) S
    | none => .bad else .bad := (rfl)
@[simp] theorem gLen_s : gLen [.str s] S = if s.length ≤ 16000000 then .ok (.int s.length) S else .bad := (rfl)
@[simp] theorem gIn_s : gIn (.str s) (.str z) S = .ok (.bl (subS s z)) S := (rfl)
@[simp] theorem gNotIn_s : gNotIn (.str s) (.str z) S = .ok (.bl (!(subS s z))) S := (rfl)
@[simp] theorem gStrI_i : gStrI [.int i] S = if i.natAbs.log2 < 1920 then .ok (.str (toString i)) S else .bad := (rfl)
end
@[simp] theorem tx_len (l : List Nat) : (tx l).length = l.length := by simp [tx, Str.length]
@[simp] theorem tx_cps (l : List Nat) : (tx l).cps.toList = l := rfl
@[simp] theorem tx_eq (a b : List Nat) : (tx a = tx b) ↔ a = b := ⟨fun h => congrArg (fun x : Str => x.cps.toList) h, fun h => by rw [h]⟩
@[simp] theorem tx_app (a b : List Nat) : tx a ++ tx b = tx (a ++ b) := SX.S_cat a b
@[simp] theorem tx_cut (a : List Nat) (lo hi : Option Int) : cutS (tx a) lo hi = tx (cutL a lo hi) := by
  unfold cutS cutL
  rw [tx_len]
@[simp] theorem tx_one (c : Nat) : (⟨#[c]⟩ : Str) = tx [c] := rfl
@[simp] theorem sub_one (c : Nat) (l : List Nat) : subS (tx [c]) (tx l) = decide (c ∈ l) := rfl
@[simp] theorem signs_tx (l : List Nat) : signsD (tx l) = l.map fun c => D.str (tx [c]) := rfl
theorem join_tx (a : List Nat) (ys : List (List Nat)) : Txt.join (tx a) (ys.map tx) = tx (TL.joinL a ys) := SX.join_S a ys

@[simp] theorem strsO_nil : strsO [] = some [] := (rfl)
@[simp] theorem strsO_cons (x : Str) (ds : List D) : strsO (.str x :: ds) = match strsO ds with
    | some ys => some (x :: ys)
    | none => none := (rfl)
theorem strsO_map : ∀ {xs : List D} {zs : List Str}, strsO xs = some zs → xs = zs.map D.str
  | [], zs, h => by cases h; rfl
  | d :: xs, zs, h => by
    cases d <;> try (simp [strsO] at h; done)
    rename_i x
    rw [strsO_cons] at h
    cases q : strsO xs with
    | none => simp only [q] at h; cases h
    | some ys => simp only [q] at h; cases h; rw [strsO_map q]; rfl
theorem among_strs (w : Str) : ∀ zs : List Str, D.among (.str w) (zs.map D.str) = zs.any fun z => decide (z = w)
  | [] => rfl
  | z :: zs => by
    have ih := among_strs w zs
    unfold D.among at ih ⊢
    rw [List.map_cons, List.any_cons, List.any_cons, ih]
    have e : PyData.eqv (D.str z).toP (D.str w).toP = decide (z = w) := by
      show (z == w) = decide (z = w)
      by_cases e : z = w
      · subst e; simp
      · simp [e]
    rw [e]
theorem inB_strs {w : Str} {xs : List D} (h : (strsO xs).isSome = true) : inB (.str w) (.tup xs) = some (((strsO xs).getD []).any fun z => decide (z = w)) := by
  obtain ⟨zs, q⟩ := Option.isSome_iff_exists.mp h
  have e := strsO_map q
  rw [q, Option.getD_some, ← among_strs, ← e]
  have f : xs.all D.flat1 = true := by
    rw [e, List.all_map]
    exact List.all_eq_true.mpr fun _ _ => rfl
  simp [inB, f, D.flat1]
@[simp] theorem gIn_ts {w : Str} {xs : List D} (S : Sto) (h : (strsO xs).isSome = true) : gIn (.str w) (.tup xs) S = .ok (.bl (((strsO xs).getD []).any fun z => decide (z = w))) S := by
  unfold gIn
  rw [show (D.tup xs).top S = .tup xs from rfl, inB_strs h]
@[simp] theorem gNotIn_ts {w : Str} {xs : List D} (S : Sto) (h : (strsO xs).isSome = true) : gNotIn (.str w) (.tup xs) S = .ok (.bl (!(((strsO xs).getD []).any fun z => decide (z = w)))) S := by
  unfold gNotIn
  rw [show (D.tup xs).top S = .tup xs from rfl, inB_strs h]
@[simp] theorem isNon_box (b : Bx) (xs : List D) : (D.box b xs).isNon = false := (rfl)
@[simp] theorem kit_di : kitB "dict" "int" = some false := by decide +kernel
@[simp] theorem kit_db : kitB "dict" "bool" = some false := by decide +kernel
@[simp] theorem kit_ds : kitB "dict" "str" = some false := by decide +kernel
@[simp] theorem kit_dt : kitB "dict" "tuple" = some false := by decide +kernel
@[simp] theorem kit_dl : kitB "dict" "list" = some false := by decide +kernel
@[simp] theorem kit_dd : kitB "dict" "dict" = some true := by decide +kernel
@[simp] theorem isi_dK_int (S : Sto) (ks : List Key) (xs : List D) : gIsi [.box (.dK ks) xs, .ty "int"] S = .ok (.bl false) S := by simp [gIsi, D.tyName]
@[simp] theorem isi_dK_bool (S : Sto) (ks : List Key) (xs : List D) : gIsi [.box (.dK ks) xs, .ty "bool"] S = .ok (.bl false) S := by simp [gIsi, D.tyName]
@[simp] theorem isi_dK_str (S : Sto) (ks : List Key) (xs : List D) : gIsi [.box (.dK ks) xs, .ty "str"] S = .ok (.bl false) S := by simp [gIsi, D.tyName]
@[simp] theorem isi_dK_tuple (S : Sto) (ks : List Key) (xs : List D) : gIsi [.box (.dK ks) xs, .ty "tuple"] S = .ok (.bl false) S := by simp [gIsi, D.tyName]
@[simp] theorem isi_dK_list (S : Sto) (ks : List Key) (xs : List D) : gIsi [.box (.dK ks) xs, .ty "list"] S = .ok (.bl false) S := by simp [gIsi, D.tyName]
@[simp] theorem isi_dK_dict (S : Sto) (ks : List Key) (xs : List D) : gIsi [.box (.dK ks) xs, .ty "dict"] S = .ok (.bl true) S := by simp [gIsi, D.tyName]
/-! ### a place in a text -/
structure At (a : List Nat) (p : Nat) (r : List Nat) : Prop where
  len : p + r.length = a.length
  drop : a.drop p = r
theorem At.zero (a : List Nat) : At a 0 a := ⟨by simp, by simp⟩
theorem At.app (u v : List Nat) : At (u ++ v) u.length v := ⟨by simp, by simp⟩
theorem At.step {a : List Nat} {p : Nat} {c : Nat} {r : List Nat} (h : At a p (c :: r)) : At a (p + 1) r := by
  refine ⟨?_, ?_⟩
  · have := h.len; simp at this; omega
  · rw [← List.drop_drop, h.drop]; rfl
theorem At.get {a : List Nat} {p : Nat} {c : Nat} {r : List Nat} (h : At a p (c :: r)) : a[p]? = some c := by
  have : (a.drop p)[0]? = some c := by rw [h.drop]; rfl
  rw [List.getElem?_drop] at this
  simpa using this
theorem At.pos {a : List Nat} {p : Nat} {r : List Nat} (h : At a p r) : p = a.length - r.length := by have := h.len; omega
theorem At.cut {a : List Nat} {p : Nat} {r : List Nat} (h : At a p r) (k : Nat) : cutL a (some (p : Int)) (some ((p + k : Nat) : Int)) = r.take k := by
  rw [cutL_both, List.drop_take, h.drop]
  congr 1; omega
theorem At.cut1 {a : List Nat} {p : Nat} {r : List Nat} (h : At a p r) : cutL a (some (p : Int)) (some ((p : Int) + 1)) = r.take 1 := h.cut 1
theorem At.cut2 {a : List Nat} {p : Nat} {r : List Nat} (h : At a p r) : cutL a (some (p : Int)) (some ((p : Int) + 2)) = r.take 2 := h.cut 2
theorem At.ix {a : List Nat} {p : Nat} {c : Nat} {r : List Nat} (h : At a p (c :: r)) : atI a (p : Int) = some c := by
  rw [atI_nn (by omega)]
  simpa using h.get
/-- places p ≤ q of one text -/
theorem At.between {a : List Nat} {p q : Nat} {u r : List Nat} (h : At a p (u ++ r)) (h2 : At a q r) : cutL a (some (p : Int)) (some (q : Int)) = u := by
  have e : q = p + u.length := by have := h.len; have := h2.len; simp at *; omega
  rw [e, h.cut, List.take_left]
theorem At.over {a : List Nat} {p : Nat} {u r : List Nat} (h : At a p (u ++ r)) : At a (p + u.length) r := by
  refine ⟨?_, ?_⟩
  · have := h.len; simp at this; omega
  · rw [← List.drop_drop, h.drop, List.drop_left]

/-! ### leaving -/
theorem flat_more : ∀ {n m : Nat} {d : D}, n ≤ m → D.flat n d = true → D.flat m d = true := by
  intro n
  induction n with
  | zero => intro m d _ h; simp [D.flat] at h
  | succ n ih =>
    intro m d hm h
    obtain ⟨m, rfl⟩ : ∃ m', m = m' + 1 := ⟨m - 1, by omega⟩
    have go : ∀ xs : List D, D.flats n xs = true → D.flats m xs = true := by
      intro xs
      induction xs with
      | nil => intro _; rfl
      | cons x xs ih2 =>
        intro hx
        simp only [D.flats, Bool.and_eq_true] at hx ⊢
        exact ⟨ih (by omega) hx.1, ih2 hx.2⟩
    cases d <;> simp_all [D.flat]
theorem flats_of {n : Nat} : ∀ {xs : List D}, (∀ d ∈ xs, D.flat n d = true) → D.flats n xs = true
  | [], _ => rfl
  | x :: xs, h => by
    simp only [D.flats, Bool.and_eq_true]
    exact ⟨h x List.mem_cons_self, flats_of fun d hd => h d (List.mem_cons_of_mem _ hd)⟩
theorem fz_flat (r : List O) (l : Nat) : ∀ {n m : Nat} {d : D}, n ≤ m → D.flat n d = true → D.fz r l m d = some d := by
  intro n
  induction n with
  | zero => intro m d _ h; simp [D.flat] at h
  | succ n ih =>
    intro m d hm h
    obtain ⟨m, rfl⟩ : ∃ m', m = m' + 1 := ⟨m - 1, by omega⟩
    have go : ∀ xs : List D, D.flats n xs = true → mapO (D.fz r l m) xs = some xs := by
      intro xs
      induction xs with
      | nil => intro _; rfl
      | cons x xs ih2 =>
        intro hx
        simp only [D.flats, Bool.and_eq_true] at hx
        simp only [mapO, ih (show n ≤ m by omega) hx.1, ih2 hx.2]
    cases d with
    | non => rfl
    | bl b => rfl
    | int i => rfl
    | str x => rfl
    | ty t => rfl
    | tup xs => simp only [D.flat, Bool.and_eq_true] at h; simp only [D.fz, go xs h.2]
    | lst xs => simp only [D.flat, Bool.and_eq_true] at h; simp only [D.fz, go xs h.2]
    | rol xs => simp [D.flat] at h
    | ref a b => simp [D.flat] at h
    | box b xs => simp [D.flat] at h
theorem leave_flatD {n : Nat} {d : D} (r : List O) (S : Sto) (hn : n ≤ 40) (h : D.flat n d = true) : leave d (r :: S) = .ok d S := by
  cases r with
  | nil => rfl
  | cons o r =>
    have e := fz_flat (o :: r) S.length hn h
    simp only [leave, e]
theorem le_flat (l : Nat) : ∀ {n : Nat} {d : D}, D.flat n d = true → D.le l d = true := by
  intro n
  induction n with
  | zero => intro d h; simp [D.flat] at h
  | succ n ih =>
    intro d h
    have go : ∀ xs : List D, D.flats n xs = true → D.les l xs = true := by
      intro xs
      induction xs with
      | nil => intro _; rfl
      | cons x xs ih2 =>
        intro hx
        simp only [D.flats, Bool.and_eq_true] at hx
        simp only [D.les, Bool.and_eq_true]
        exact ⟨ih hx.1, ih2 hx.2⟩
    cases d with
    | tup xs => simp only [D.flat, Bool.and_eq_true] at h; exact go xs h.2
    | lst xs => simp only [D.flat, Bool.and_eq_true] at h; exact go xs h.2
    | rol xs => simp [D.flat] at h
    | ref a b => simp [D.flat] at h
    | box b xs => simp [D.flat] at h
    | _ => rfl
theorem les_flat (l : Nat) {n : Nat} : ∀ {xs : List D}, D.flats n xs = true → D.les l xs = true
  | [], _ => rfl
  | x :: xs, h => by
    simp only [D.flats, Bool.and_eq_true] at h
    simp only [D.les, Bool.and_eq_true]
    exact ⟨le_flat l h.1, les_flat l h.2⟩

/-! ### _law_same(told, due) -/
def c_sameA (self : Sem') : CS :=
  (cSeq (cIfS (cTB (cB gIsN (cV 1) (cK .non))) (cRet (cB gIsN (cV 0) (cK .non))) cNext)
    (cSeq (cIfS (cT (cCall gIsi (caCons (cV 1) (caCons (cK (.ty "bool")) caNil)))) (cRet (cAnd (cCall gIsi (caCons (cV 0) (caCons (cK (.ty "bool")) caNil))) (cB gEqA (cV 0) (cV 1)))) cNext)
    (cSeq (cIfS (cT (cCall gIsi (caCons (cV 1) (caCons (cK (.ty "int")) caNil)))) (cRet (cAnd (cCall gIsi (caCons (cV 0) (caCons (cK (.ty "int")) caNil))) (cAnd (cNot (cCall gIsi (caCons (cV 0) (caCons (cK (.ty "bool")) caNil)))) (cB gEqA (cV 0) (cV 1))))) cNext)
    (cSeq (cIfS (cT (cCall gIsi (caCons (cV 1) (caCons (cK (.ty "str")) caNil)))) (cRet (cAnd (cCall gIsi (caCons (cV 0) (caCons (cK (.ty "str")) caNil))) (cB gEqA (cV 0) (cV 1)))) cNext)
    (cSeq (cIfS (tOr (tAnd (cT (cCall gIsi (caCons (cV 1) (caCons (cK (.ty "list")) caNil)))) (tNot (cT (cCall gIsi (caCons (cV 0) (caCons (cK (.ty "list")) caNil)))))) (tAnd (cT (cCall gIsi (caCons (cV 1) (caCons (cK (.ty "tuple")) caNil)))) (tNot (cT (cCall gIsi (caCons (cV 0) (caCons (cK (.ty "tuple")) caNil))))))) (cRet (cK (.bl false))) cNext)
    (cRet (cAnd (cB gEqA (cCall gLenA (caCons (cV 0) caNil)) (cCall gLenA (caCons (cV 1) caNil))) (cB gEqA (cLc (ciR1 (caCons (cCall gLenA (caCons (cV 1) caNil)) caNil)) (tgN 2) (tNot (cT (cCall self (caCons (cB gItem (cV 0) (cV 2)) (caCons (cB gItem (cV 1) (cV 2)) caNil))))) (cK (.int 1)) [2]) (cLst caNil)))))))))
def m_sameA : Nat → Sem'
  | 0 => fun _ _ => .bad
  | k + 1 => runF 3 (c_sameA (m_sameA k))
theorem same_reflA : ∀ (n : Nat) (d : D) (S : Sto), D.flat n d = true → m_sameA n [d, d] S = .ok (.bl true) S := by
  intro n
  induction n with
  | zero => intro d S h; simp [D.flat] at h
  | succ n ih =>
    intro d S h
    have seq : ∀ xs : List D, D.flats n xs = true → ∀ (x : D), (∀ S, x.dict S = none) → (∀ (k : Nat) S (hk : k < xs.length), gIx x (.int (k : Int)) S = .ok xs[k] S) →
        lcL (tgN 2) (tNot (cT (cCall (m_sameA n) (caCons (cB gItem (cV 0) (cV 2)) (caCons (cB gItem (cV 1) (cV 2)) caNil))))) (cK (.int 1)) [some x, some x, none] (rngD 0 xs.length) ([] :: S) = .ok [] ([] :: S) := by
      intro xs hx x hd hi
      rw [lc_rngF (p := fun _ => false) (f := fun _ => .int 1)]
      · simp
      · intro k hk
        have e := hi k ([] :: S) hk
        have := ih xs[k] ([] :: S) (flats_mem hx _ (List.getElem_mem hk))
        simp [hd, e, this]
      · intro k _ h; cases h
    show runF 3 (c_sameA (m_sameA n)) [d, d] S = _
    rw [runF_eq]
    cases d with
    | non => simp [c_sameA]
    | bl b => simp [c_sameA]
    | int i => simp [c_sameA]
    | str x => simp [c_sameA]
    | ty m => simp [D.flat] at h
    | ref l m => simp [D.flat] at h
    | rol xs => simp [D.flat] at h
    | box b xs => simp [D.flat] at h
    | tup xs =>
      simp only [D.flat, Bool.and_eq_true, decide_eq_true_eq] at h
      have q := seq xs h.2 (.tup xs) (fun _ => rfl) (fun k S hk => by simp [atI_nn, hk])
      have h2 : (-16000000 : Int) ≤ xs.length := by omega
      have h3 : (xs.length : Int) ≤ 16000000 := by omega
      simp [c_sameA, q, h.1, h2, h3]
    | lst xs =>
      simp only [D.flat, Bool.and_eq_true, decide_eq_true_eq] at h
      have q := seq xs h.2 (.lst xs) (fun _ => rfl) (fun k S hk => by simp [atI_nn, hk])
      have h2 : (-16000000 : Int) ≤ xs.length := by omega
      have h3 : (xs.length : Int) ≤ 16000000 := by omega
      simp [c_sameA, q, h.1, h2, h3]
end MP

namespace K02
open MP PySem
def errs : List Str := ["GateError", "InvalidText"]
def subE : Str → Str → Bool := subTab [("GateError", ["GateError"]), ("InvalidText", ["InvalidText", "GateError"])]
def t_SHORT : List (Str × D) := [("n", (.str "\n")), ("t", (.str "\t")), ("\\", (.str "\\")), ("'", (.str "'"))]
/-- is_shown_at(value, deep): 0 value 1 deep 2 one -/
def c_is_shown_at (self : Sem') : CS :=
  (cSeq (cIfS (cT (cCall gIsi (caCons (cV 0) (caCons (cK (.ty "tuple")) caNil)))) (cRet (cAnd (cB gLtA (cV 1) (cK (.int 20))) (cCall gAll (caCons (cLc (ciIt (cV 0)) (tgN 2) ctYes (cCall self (caCons (cV 2) (caCons (cB gAddA (cV 1) (cK (.int 1))) caNil))) [2]) caNil)))) cNext)
    (cSeq (cIfS (cT (cCall gIsi (caCons (cV 0) (caCons (cK (.ty "int")) caNil)))) (cRet (cChain gLtA gLtA (cU gNeg (cK (.int 10000000000000000000000000000000000000000))) (cV 0) (cK (.int 10000000000000000000000000000000000000000)))) cNext)
    (cRet (cOr (cB gIsN (cV 0) (cK .non)) (cCall gIsi (caCons (cV 0) (caCons (cK (.ty "str")) caNil)))))))
def m_is_shown_at : Nat → Sem'
  | 0 => fun _ _ => .bad
  | k + 1 => runF 3 (c_is_shown_at (m_is_shown_at k))
/-- is_shown(value): 0 value -/
def c_is_shown : CS :=
  (cRet (cCall (m_is_shown_at 26) (caCons (cV 0) (caCons (cK (.int 0)) caNil))))
def m_is_shown : Sem' := runF 1 c_is_shown
/-- quoted(text): 0 text 1 found 2 sign -/
def c_quoted : CS :=
  (cSeq (cAsg (tgN 1) (cK (.str "")))
    (cSeq (cForA (cV 0) (tgN 2) (cAug 1 gIAddA (cGet2 (cDisp [((cK (.str "\n")), (cK (.str "\\n"))), ((cK (.str "\t")), (cK (.str "\\t"))), ((cK (.str "\\")), (cK (.str "\\\\"))), ((cK (.str "'")), (cK (.str "\\'")))]) (cV 2) (cV 2))))
    (cRet (cB gAddA (cB gAddA (cK (.str "'")) (cV 1)) (cK (.str "'"))))))
def m_quoted : Sem' := runF 3 c_quoted
/-- show(value): 0 value 1 one -/
def c_show (self : Sem') : CS :=
  (cSeq (cIfS (cT (cCall gIsi (caCons (cV 0) (caCons (cK (.ty "tuple")) caNil)))) (cRet (cB gAddA (cB gAddA (cK (.str "(")) (cMeth "str" gJoin (cK (.str " ")) (caCons (cLc (ciIt (cV 0)) (tgN 1) ctYes (cCall self (caCons (cV 1) caNil)) [1]) caNil))) (cK (.str ")")))) cNext)
    (cSeq (cIfS (cT (cCall gIsi (caCons (cV 0) (caCons (cK (.ty "str")) caNil)))) (cRet (cCall m_quoted (caCons (cV 0) caNil))) cNext)
    (cSeq (cIfS (cTB (cB gIsN (cV 0) (cK .non))) (cRet (cK (.str "none"))) cNext)
    (cSeq (cIfS (cT (cCall gIsi (caCons (cV 0) (caCons (cK (.ty "bool")) caNil)))) (cRet (cIf (cT (cV 0)) (cK (.str "true")) (cK (.str "false")))) cNext)
    (cRet (cCall gStrI (caCons (cV 0) caNil)))))))
def m_show : Nat → Sem'
  | 0 => fun _ _ => .bad
  | k + 1 => runF 2 (c_show (m_show k))
/-- skipped(text, at): 0 text 1 at -/
noncomputable def c_skipped : CS :=
  (cSeq (cWhile (tAnd (cTB (cB gLtA (cV 1) (cCall gLenA (caCons (cV 0) caNil)))) (cTB (cB gMem (cB gItem (cV 0) (cV 1)) (cK (.str " \n"))))) (cAug 1 gIAddA (cK (.int 1))))
    (cRet (cV 1)))
noncomputable def m_skipped : Sem' := runF 2 c_skipped
/-- quote_at(text, at): 0 text 1 at 2 found 3 sign -/
noncomputable def c_quote_at : CS :=
  (cSeq (cAsg (tgN 2) (cK (.str "")))
    (cSeq (cWhile (cTB (cB gNeA (cSl (cV 0) (coS (cV 1)) (coS (cB gAddA (cV 1) (cK (.int 1))))) (cK (.str "'")))) (cSeq (cAsg (tgN 3) (cSl (cV 0) (coS (cV 1)) (coS (cB gAddA (cV 1) (cK (.int 1))))))
    (cSeq (cIfS (cTB (cB gEqA (cV 3) (cK (.str "")))) (cRaise "InvalidText" (cV 1)) cNext)
    (cSeq (cIfS (cTB (cB gEqA (cV 3) (cK (.str "\\")))) (cSeq (cAsg (tgN 3) (cTg2 t_SHORT (cSl (cV 0) (coS (cB gAddA (cV 1) (cK (.int 1)))) (coS (cB gAddA (cV 1) (cK (.int 2))))) (cK (.str ""))))
    (cSeq (cIfS (cTB (cB gEqA (cV 3) (cK (.str "")))) (cRaise "InvalidText" (cV 1)) cNext)
    (cAug 1 gIAddA (cK (.int 1))))) cNext)
    (cSeq (cAug 2 gIAddA (cV 3))
    (cAug 1 gIAddA (cK (.int 1))))))))
    (cRet (cTup (caCons (cV 2) (caCons (cCall m_skipped (caCons (cV 0) (caCons (cB gAddA (cV 1) (cK (.int 1))) caNil))) caNil))))))
noncomputable def m_quote_at : Sem' := runF 4 c_quote_at
/-- integer_at(text, at): 0 text 1 at 2 end 3 start -/
noncomputable def c_integer_at : CS :=
  (cSeq (cAsg (tgN 2) (cB gAddA (cV 1) (cCall gIntA (caCons (cB gEqA (cB gItem (cV 0) (cV 1)) (cK (.str "-"))) caNil))))
    (cSeq (cAsg (tgN 3) (cV 2))
    (cSeq (cWhile (cTB (cChain gLeA gLeA (cK (.str "0")) (cSl (cV 0) (coS (cV 2)) (coS (cB gAddA (cV 2) (cK (.int 1))))) (cK (.str "9")))) (cAug 2 gIAddA (cK (.int 1))))
    (cSeq (cIfS (cTB (cB gEqA (cV 2) (cV 3))) (cRaise "InvalidText" (cV 2)) cNext)
    (cSeq (cIfS (cTB (cB gGtA (cV 2) (cB gAddA (cV 3) (cK (.int 40))))) (cRaise "InvalidText" (cV 1)) cNext)
    (cRet (cTup (caCons (cCall gIntA (caCons (cSl (cV 0) (coS (cV 1)) (coS (cV 2))) caNil)) (caCons (cCall m_skipped (caCons (cV 0) (caCons (cV 2) caNil))) caNil)))))))))
noncomputable def m_integer_at : Sem' := runF 4 c_integer_at
/-- value_at(text, at, deep): 0 text 1 at 2 deep 3 sign 4 end 5 word 6 value -/
noncomputable def c_value_at (self : Nat → Sem') : CS :=
  (cSeq (cAsg (tgN 3) (cSl (cV 0) (coS (cV 1)) (coS (cB gAddA (cV 1) (cK (.int 1))))))
    (cSeq (cIfS (cTB (cB gEqA (cV 3) (cK (.str "(")))) (cRet (cCall (self 1) (caCons (cV 0) (caCons (cV 1) (caCons (cV 2) caNil))))) cNext)
    (cSeq (cIfS (cTB (cB gEqA (cV 3) (cK (.str "'")))) (cRet (cCall m_quote_at (caCons (cV 0) (caCons (cB gAddA (cV 1) (cK (.int 1))) caNil)))) cNext)
    (cSeq (cIfS (tOr (cTB (cB gEqA (cV 3) (cK (.str "-")))) (cTB (cChain gLeA gLeA (cK (.str "0")) (cV 3) (cK (.str "9"))))) (cRet (cCall m_integer_at (caCons (cV 0) (caCons (cV 1) caNil)))) cNext)
    (cSeq (cAsg (tgN 4) (cV 1))
    (cSeq (cWhile (cTB (cChain gLeA gLeA (cK (.str "a")) (cSl (cV 0) (coS (cV 4)) (coS (cB gAddA (cV 4) (cK (.int 1))))) (cK (.str "z")))) (cAug 4 gIAddA (cK (.int 1))))
    (cSeq (cForA (cTup (caCons (cTup (caCons (cK (.str "none")) (caCons (cK .non) caNil))) (caCons (cTup (caCons (cK (.str "true")) (caCons (cK (.bl true)) caNil))) (caCons (cTup (caCons (cK (.str "false")) (caCons (cK (.bl false)) caNil))) caNil)))) (tgT [(tgN 5), (tgN 6)]) (cIfS (cTB (cB gEqA (cSl (cV 0) (coS (cV 1)) (coS (cV 4))) (cV 5))) (cRet (cTup (caCons (cV 6) (caCons (cCall m_skipped (caCons (cV 0) (caCons (cV 4) caNil))) caNil)))) cNext))
    (cRaise "InvalidText" (cV 1)))))))))
/-- tuple_at(text, at, deep): 0 text 1 at 2 deep 3 found 4 value -/
noncomputable def c_tuple_at (self : Nat → Sem') : CS :=
  (cSeq (cIfS (cTB (cB gEqA (cV 2) (cK (.int 20)))) (cRaise "InvalidText" (cV 1)) cNext)
    (cSeq (cPar [3, 1] (caCons (cNew 0 caNil) (caCons (cCall m_skipped (caCons (cV 0) (caCons (cB gAddA (cV 1) (cK (.int 1))) caNil))) caNil)))
    (cSeq (cWhile (cTB (cB gNeA (cSl (cV 0) (coS (cV 1)) (coS (cB gAddA (cV 1) (cK (.int 1))))) (cK (.str ")")))) (cSeq (cAsg (tgT [(tgN 4), (tgN 1)]) (cCall (self 0) (caCons (cV 0) (caCons (cV 1) (caCons (cB gAddA (cV 2) (cK (.int 1))) caNil)))))
    (cDrop (cApp (cV 3) (cV 4)))))
    (cRet (cTup (caCons (cCall gTuple (caCons (cV 3) caNil)) (caCons (cCall m_skipped (caCons (cV 0) (caCons (cB gAddA (cV 1) (cK (.int 1))) caNil))) caNil)))))))
noncomputable def M_value_at : Nat → Nat → Sem'
  | 0, _ => fun _ _ => .bad
  | k + 1, i => match i with
    | 0 => runF 7 (c_value_at (M_value_at k))
    | 1 => runF 5 (c_tuple_at (M_value_at k))
    | _ => fun _ _ => .bad
noncomputable def m_value_at (k : Nat) : Sem' := M_value_at k 0
noncomputable def m_tuple_at (k : Nat) : Sem' := M_value_at k 1
/-- read_shown(text): 0 text 1 value 2 at -/
noncomputable def c_read_shown : CS :=
  (cSeq (cAsg (tgT [(tgN 1), (tgN 2)]) (cCall (m_value_at 50) (caCons (cV 0) (caCons (cCall m_skipped (caCons (cV 0) (caCons (cK (.int 0)) caNil))) (caCons (cK (.int 0)) caNil)))))
    (cSeq (cIfS (cTB (cB gLtA (cV 2) (cCall gLenA (caCons (cV 0) caNil)))) (cRaise "InvalidText" (cV 2)) cNext)
    (cRet (cV 1))))
noncomputable def m_read_shown : Sem' := runF 3 c_read_shown
/-- _law_next(tape, many): 0 tape 1 many 2 rest 3 cell -/
def c__law_next : CS :=
  (cSeq (cAsg (tgN 2) (cB gItem (cV 0) (cK (.int 2))))
    (cSeq (cIfS (cTB (cB gEqA (cV 2) (cK (.int 0)))) (cSeq (cAsg (tgN 3) (cK (.int 0)))
    (cSeq (cIfS (cTB (cB gLtA (cB gItem (cV 0) (cK (.int 1))) (cCall gLenA (caCons (cB gItem (cV 0) (cK (.int 0))) caNil)))) (cSeq (cAsg (tgN 3) (cCall gAbs (caCons (cCall gIntA (caCons (cB gItem (cB gItem (cV 0) (cK (.int 0))) (cB gItem (cV 0) (cK (.int 1)))) caNil)) caNil)))
    (cSetA (cV 0) (cK (.int 1)) (cB gAddA (cB gItem (cV 0) (cK (.int 1))) (cK (.int 1))))) cNext)
    (cSeq (cAsg (tgN 2) (cV 3))
    (cIfS (cTB (cB gLtA (cV 3) (cB gPow (cK (.int 10)) (cK (.int 18))))) (cSeq (cSetA (cV 0) (cK (.int 3)) (cB gMod (cCall gIntA (caCons (cB gAddA (cB gAddA (cB gMul (cB gItem (cV 0) (cK (.int 3))) (cK (.int 69621))) (cB gMul (cV 3) (cK (.int 40692)))) (cK (.int 17))) caNil)) (cK (.int 2147483647))))
    (cRet (cB gMod (cB gMod (cCall gIntA (caCons (cB gMul (cCall gIntA (caCons (cB gFdiv (cB gItem (cV 0) (cK (.int 3))) (cK (.int 5))) caNil)) (cK (.int 48271))) caNil)) (cK (.int 2147483647))) (cV 1)))) cNext)))) cNext)
    (cSeq (cSetA (cV 0) (cK (.int 2)) (cB gFdiv (cV 2) (cV 1)))
    (cRet (cB gMod (cCall gIntA (caCons (cV 2) caNil)) (cV 1))))))
def m__law_next : Sem' := runF 4 c__law_next
/-- _law_same(told, due): 0 told 1 due 2 k -/
def c__law_same (self : Sem') : CS :=
  (cSeq (cIfS (cTB (cB gIsN (cV 1) (cK .non))) (cRet (cB gIsN (cV 0) (cK .non))) cNext)
    (cSeq (cIfS (cT (cCall gIsi (caCons (cV 1) (caCons (cK (.ty "bool")) caNil)))) (cRet (cAnd (cCall gIsi (caCons (cV 0) (caCons (cK (.ty "bool")) caNil))) (cB gEqA (cV 0) (cV 1)))) cNext)
    (cSeq (cIfS (cT (cCall gIsi (caCons (cV 1) (caCons (cK (.ty "int")) caNil)))) (cRet (cAnd (cCall gIsi (caCons (cV 0) (caCons (cK (.ty "int")) caNil))) (cAnd (cNot (cCall gIsi (caCons (cV 0) (caCons (cK (.ty "bool")) caNil)))) (cB gEqA (cV 0) (cV 1))))) cNext)
    (cSeq (cIfS (cT (cCall gIsi (caCons (cV 1) (caCons (cK (.ty "str")) caNil)))) (cRet (cAnd (cCall gIsi (caCons (cV 0) (caCons (cK (.ty "str")) caNil))) (cB gEqA (cV 0) (cV 1)))) cNext)
    (cSeq (cIfS (tOr (tAnd (cT (cCall gIsi (caCons (cV 1) (caCons (cK (.ty "list")) caNil)))) (tNot (cT (cCall gIsi (caCons (cV 0) (caCons (cK (.ty "list")) caNil)))))) (tAnd (cT (cCall gIsi (caCons (cV 1) (caCons (cK (.ty "tuple")) caNil)))) (tNot (cT (cCall gIsi (caCons (cV 0) (caCons (cK (.ty "tuple")) caNil))))))) (cRet (cK (.bl false))) cNext)
    (cRet (cAnd (cB gEqA (cCall gLenA (caCons (cV 0) caNil)) (cCall gLenA (caCons (cV 1) caNil))) (cB gEqA (cLc (ciR1 (caCons (cCall gLenA (caCons (cV 1) caNil)) caNil)) (tgN 2) (tNot (cT (cCall self (caCons (cB gItem (cV 0) (cV 2)) (caCons (cB gItem (cV 1) (cV 2)) caNil))))) (cK (.int 1)) [2]) (cLst caNil)))))))))
def m__law_same : Nat → Sem'
  | 0 => fun _ _ => .bad
  | k + 1 => runF 3 (c__law_same (m__law_same k))
/-- _law_draw(tape, deep): 0 tape 1 deep 2 k -/
def c__law_draw (self : Sem') : CS :=
  (cSeq (cIfS (tAnd (cTB (cB gGtA (cV 1) (cK (.int 0)))) (cTB (cB gEqA (cCall m__law_next (caCons (cV 0) (caCons (cK (.int 3)) caNil))) (cK (.int 0))))) (cRet (cCall gTuple (caCons (cLc (ciR1 (caCons (cCall m__law_next (caCons (cV 0) (caCons (cK (.int 4)) caNil))) caNil)) (tgN 2) ctYes (cCall self (caCons (cV 0) (caCons (cB gSub (cV 1) (cK (.int 1))) caNil))) [2]) caNil))) cNext)
    (cRet (cB gItem (cTup (caCons (cB gSub (cCall m__law_next (caCons (cV 0) (caCons (cK (.int 2000)) caNil))) (cK (.int 1000))) (caCons (cK (.str "")) (caCons (cK (.str "it's \\ ~\n")) (caCons (cK (.str "a\tb")) (caCons (cK .non) (caCons (cK (.bl true)) (caCons (cK (.bl false)) (caCons (cK (.int 0)) caNil))))))))) (cCall m__law_next (caCons (cV 0) (caCons (cK (.int 8)) caNil))))))
def m__law_draw : Nat → Sem'
  | 0 => fun _ _ => .bad
  | k + 1 => runF 3 (c__law_draw (m__law_draw k))
/-- _law_quoted(text): 0 text 1 sign -/
def c__law_quoted : CS :=
  (cRet (cB gAddA (cB gAddA (cK (.str "'")) (cMeth "str" gJoin (cK (.str "")) (caCons (cLc (ciIt (cV 0)) (tgN 1) ctYes (cGet2 (cDisp [((cK (.str "\n")), (cK (.str "\\n"))), ((cK (.str "\t")), (cK (.str "\\t"))), ((cK (.str "\\")), (cK (.str "\\\\"))), ((cK (.str "'")), (cK (.str "\\'")))]) (cV 1) (cV 1)) [1]) caNil))) (cK (.str "'"))))
def m__law_quoted : Sem' := runF 2 c__law_quoted
/-- _law_show(value, gap): 0 value 1 gap 2 one -/
def c__law_show (self : Sem') : CS :=
  (cSeq (cIfS (cT (cCall gIsi (caCons (cV 0) (caCons (cK (.ty "tuple")) caNil)))) (cRet (cB gAddA (cB gAddA (cB gAddA (cB gAddA (cK (.str "(")) (cSl (cV 1) (coS (cK (.int 1))) coN)) (cMeth "str" gJoin (cV 1) (caCons (cLc (ciIt (cV 0)) (tgN 2) ctYes (cCall self (caCons (cV 2) (caCons (cV 1) caNil))) [2]) caNil))) (cSl (cV 1) (coS (cK (.int 1))) coN)) (cK (.str ")")))) cNext)
    (cSeq (cIfS (cT (cCall gIsi (caCons (cV 0) (caCons (cK (.ty "str")) caNil)))) (cRet (cCall m__law_quoted (caCons (cV 0) caNil))) cNext)
    (cRet (cIf (cTB (cB gIsN (cV 0) (cK .non))) (cK (.str "none")) (cIf (cT (cCall gIsi (caCons (cV 0) (caCons (cK (.ty "bool")) caNil)))) (cBoolSel "true" "false" (cV 0)) (cCall gStrI (caCons (cV 0) caNil)))))))
def m__law_show : Nat → Sem'
  | 0 => fun _ _ => .bad
  | k + 1 => runF 3 (c__law_show (m__law_show k))
/-- _law_skip(text, at): 0 text 1 at -/
noncomputable def c__law_skip : CS :=
  (cSeq (cWhile (tAnd (cTB (cB gNeA (cSl (cV 0) (coS (cV 1)) (coS (cB gAddA (cV 1) (cK (.int 1))))) (cK (.str "")))) (cTB (cB gMem (cB gItem (cV 0) (cV 1)) (cK (.str " \n"))))) (cAsg (tgN 1) (cB gAddA (cV 1) (cK (.int 1)))))
    (cRet (cV 1)))
noncomputable def m__law_skip : Sem' := runF 2 c__law_skip
/-- _law_read(text, at, deep): 0 text 1 at 2 deep 3 sign 4 found 5 told 6 pair 7 end -/
noncomputable def c__law_read (self : Sem') : CS :=
  (cSeq (cAsg (tgN 3) (cSl (cV 0) (coS (cV 1)) (coS (cB gAddA (cV 1) (cK (.int 1))))))
    (cSeq (cIfS (cTB (cB gEqA (cV 3) (cK (.str "(")))) (cSeq (cIfS (cTB (cB gEqA (cV 2) (cK (.int 20)))) (cRet (cTup (caCons (cK (.str "no")) (caCons (cV 1) caNil)))) cNext)
    (cSeq (cPar [4, 1] (caCons (cTup caNil) (caCons (cCall m__law_skip (caCons (cV 0) (caCons (cB gAddA (cV 1) (cK (.int 1))) caNil))) caNil)))
    (cSeq (cWhile (cTB (cB gNeA (cSl (cV 0) (coS (cV 1)) (coS (cB gAddA (cV 1) (cK (.int 1))))) (cK (.str ")")))) (cSeq (cAsg (tgN 5) (cCall self (caCons (cV 0) (caCons (cV 1) (caCons (cB gAddA (cV 2) (cK (.int 1))) caNil)))))
    (cSeq (cIfS (cTB (cB gEqA (cB gItem (cV 5) (cK (.int 0))) (cK (.str "no")))) (cRet (cV 5)) cNext)
    (cPar [4, 1] (caCons (cB gAddA (cV 4) (cTup (caCons (cB gItem (cV 5) (cK (.int 1))) caNil))) (caCons (cCall m__law_skip (caCons (cV 0) (caCons (cB gItem (cV 5) (cK (.int 2))) caNil))) caNil))))))
    (cRet (cTup (caCons (cK (.str "yes")) (caCons (cV 4) (caCons (cCall m__law_skip (caCons (cV 0) (caCons (cB gAddA (cV 1) (cK (.int 1))) caNil))) caNil)))))))) cNext)
    (cSeq (cIfS (cTB (cB gEqA (cV 3) (cK (.str "'")))) (cSeq (cPar [4, 1] (caCons (cK (.str "")) (caCons (cB gAddA (cV 1) (cK (.int 1))) caNil)))
    (cSeq (cWhile (cTB (cB gNeA (cSl (cV 0) (coS (cV 1)) (coS (cB gAddA (cV 1) (cK (.int 1))))) (cK (.str "'")))) (cSeq (cIfS (cTB (cB gGeA (cV 1) (cCall gLenA (caCons (cV 0) caNil)))) (cRet (cTup (caCons (cK (.str "no")) (caCons (cV 1) caNil)))) cNext)
    (cSeq (cAsg (tgN 6) (cSl (cV 0) (coS (cV 1)) (coS (cB gAddA (cV 1) (cK (.int 2))))))
    (cSeq (cIfS (tAnd (cTB (cB gEqA (cB gItem (cV 0) (cV 1)) (cK (.str "\\")))) (cTB (cB gNotMem (cV 6) (cTup (caCons (cK (.str "\\n")) (caCons (cK (.str "\\t")) (caCons (cK (.str "\\\\")) (caCons (cK (.str "\\'")) caNil)))))))) (cRet (cTup (caCons (cK (.str "no")) (caCons (cV 1) caNil)))) cNext)
    (cSeq (cAsg (tgN 4) (cB gAddA (cV 4) (cIf (cTB (cB gEqA (cB gItem (cV 0) (cV 1)) (cK (.str "\\")))) (cB gItem (cDisp [((cK (.str "\\n")), (cK (.str "\n"))), ((cK (.str "\\t")), (cK (.str "\t"))), ((cK (.str "\\\\")), (cK (.str "\\"))), ((cK (.str "\\'")), (cK (.str "'")))]) (cV 6)) (cB gItem (cV 0) (cV 1)))))
    (cAsg (tgN 1) (cB gAddA (cV 1) (cIf (cTB (cB gEqA (cB gItem (cV 0) (cV 1)) (cK (.str "\\")))) (cK (.int 2)) (cK (.int 1))))))))))
    (cRet (cTup (caCons (cK (.str "yes")) (caCons (cV 4) (caCons (cCall m__law_skip (caCons (cV 0) (caCons (cB gAddA (cV 1) (cK (.int 1))) caNil))) caNil))))))) cNext)
    (cSeq (cAsg (tgN 7) (cB gAddA (cV 1) (cCall gIntA (caCons (cB gEqA (cV 3) (cK (.str "-"))) caNil))))
    (cSeq (cWhile (tAnd (cTB (cB gNeA (cSl (cV 0) (coS (cV 7)) (coS (cB gAddA (cV 7) (cK (.int 1))))) (cK (.str "")))) (cTB (cB gMem (cB gItem (cV 0) (cV 7)) (cK (.str "0123456789"))))) (cAsg (tgN 7) (cB gAddA (cV 7) (cK (.int 1)))))
    (cSeq (cIfS (tAnd (cTB (cB gEqA (cV 3) (cK (.str "-")))) (cTB (cB gEqA (cV 7) (cB gAddA (cV 1) (cK (.int 1)))))) (cRet (cTup (caCons (cK (.str "no")) (caCons (cV 7) caNil)))) cNext)
    (cSeq (cIfS (cTB (cB gGtA (cB gSub (cB gSub (cV 7) (cV 1)) (cCall gIntA (caCons (cB gEqA (cV 3) (cK (.str "-"))) caNil))) (cK (.int 40)))) (cRet (cTup (caCons (cK (.str "no")) (caCons (cV 1) caNil)))) cNext)
    (cSeq (cIfS (cTB (cB gGtA (cV 7) (cV 1))) (cRet (cTup (caCons (cK (.str "yes")) (caCons (cCall gIntA (caCons (cSl (cV 0) (coS (cV 1)) (coS (cV 7))) caNil)) (caCons (cCall m__law_skip (caCons (cV 0) (caCons (cV 7) caNil))) caNil))))) cNext)
    (cSeq (cWhile (tAnd (cTB (cB gNeA (cSl (cV 0) (coS (cV 7)) (coS (cB gAddA (cV 7) (cK (.int 1))))) (cK (.str "")))) (cTB (cChain gLeA gLeA (cK (.str "a")) (cB gItem (cV 0) (cV 7)) (cK (.str "z"))))) (cAsg (tgN 7) (cB gAddA (cV 7) (cK (.int 1)))))
    (cSeq (cIfS (cTB (cB gNotMem (cSl (cV 0) (coS (cV 1)) (coS (cV 7))) (cTup (caCons (cK (.str "none")) (caCons (cK (.str "true")) (caCons (cK (.str "false")) caNil)))))) (cRet (cTup (caCons (cK (.str "no")) (caCons (cV 1) caNil)))) cNext)
    (cRet (cTup (caCons (cK (.str "yes")) (caCons (cB gItem (cDisp [((cK (.str "none")), (cK .non)), ((cK (.str "true")), (cK (.bl true))), ((cK (.str "false")), (cK (.bl false)))]) (cSl (cV 0) (coS (cV 1)) (coS (cV 7)))) (caCons (cCall m__law_skip (caCons (cV 0) (caCons (cV 7) caNil))) caNil)))))))))))))))
noncomputable def m__law_read : Nat → Sem'
  | 0 => fun _ _ => .bad
  | k + 1 => runF 8 (c__law_read (m__law_read k))
/-- _law_whole(text): 0 text 1 told -/
noncomputable def c__law_whole : CS :=
  (cSeq (cAsg (tgN 1) (cCall (m__law_read 26) (caCons (cV 0) (caCons (cCall m__law_skip (caCons (cV 0) (caCons (cK (.int 0)) caNil))) (caCons (cK (.int 0)) caNil)))))
    (cRet (cIf (cTB (cB gEqA (cB gItem (cV 1) (cK (.int 0))) (cK (.str "no")))) (cV 1) (cIf (cTB (cB gLtA (cB gItem (cV 1) (cK (.int 2))) (cCall gLenA (caCons (cV 0) caNil)))) (cTup (caCons (cK (.str "no")) (caCons (cB gItem (cV 1) (cK (.int 2))) caNil))) (cTup (caCons (cK (.str "yes")) (caCons (cB gItem (cV 1) (cK (.int 1))) caNil)))))))
noncomputable def m__law_whole : Sem' := runF 2 c__law_whole
/-- _law_asked(text): 0 text 1 e -/
noncomputable def c__law_asked : CS :=
  (cTry errs subE (cRet (cTup (caCons (cK (.str "yes")) (caCons (cCall m_read_shown (caCons (cV 0) caNil)) caNil)))) [("InvalidText", some 1, fun x => (cRet (cTup (caCons (cK (.str "no")) (caCons (cXf errs x "place") caNil))))), ("GateError", some 1, fun x => (cRet (cTup (caCons (cK (.str "other")) (caCons (cXf errs x "place") caNil)))))])
noncomputable def m__law_asked : Sem' := runF 2 c__law_asked
/-- law(script): 0 script 1 tape 2 value 3 text 4 gap 5 loose 6 turn 7 at 8 sign 9 bent 10 deep 11 large 12 k 13 one 14 shown 15 odd 16 word -/
noncomputable def c_law : CS :=
  (cSeq (cAsg (tgN 1) (cNew 0 (caCons (cCall gList (caCons (cV 0) caNil)) (caCons (cK (.int 0)) (caCons (cK (.int 0)) (caCons (cK (.int 2)) caNil))))))
    (cSeq (cAsg (tgN 2) (cCall (m__law_draw 6) (caCons (cV 1) (caCons (cK (.int 3)) caNil))))
    (cSeq (cPar [3, 4] (caCons (cCall (m_show 26) (caCons (cV 2) caNil)) (caCons (cB gItem (cTup (caCons (cK (.str " ")) (caCons (cK (.str "  ")) (caCons (cK (.str "\n ")) (caCons (cK (.str "   \n")) caNil))))) (cCall m__law_next (caCons (cV 1) (caCons (cK (.int 4)) caNil)))) caNil)))
    (cSeq (cAsg (tgN 5) (cB gAddA (cB gAddA (cSl (cV 4) (coS (cK (.int 1))) coN) (cCall (m__law_show 26) (caCons (cV 2) (caCons (cV 4) caNil)))) (cSl (cV 4) (coS (cK (.int 1))) coN)))
    (cSeq (cIfS (tNot (cT (cCall (m__law_same 30) (caCons (cLst (caCons (cV 3) (caCons (cCall m__law_asked (caCons (cV 3) caNil)) (caCons (cCall m__law_asked (caCons (cV 5) caNil)) (caCons (cCall m_is_shown (caCons (cV 2) caNil)) caNil))))) (caCons (cLst (caCons (cCall (m__law_show 26) (caCons (cV 2) (caCons (cK (.str " ")) caNil))) (caCons (cTup (caCons (cK (.str "yes")) (caCons (cV 2) caNil))) (caCons (cTup (caCons (cK (.str "yes")) (caCons (cV 2) caNil))) (caCons (cK (.bl true)) caNil))))) caNil))))) (cRet (cK (.bl false))) cNext)
    (cSeq (cFor (ciR1 (caCons (cK (.int 5)) caNil)) (tgN 6) (cSeq (cPar [7, 8] (caCons (cCall m__law_next (caCons (cV 1) (caCons (cB gAddA (cCall gLenA (caCons (cV 3) caNil)) (cK (.int 1))) caNil))) (caCons (cB gItem (cK (.str "()' -0a\\n\n\tez")) (cCall m__law_next (caCons (cV 1) (caCons (cK (.int 13)) caNil)))) caNil)))
    (cSeq (cAsg (tgN 9) (cB gItem (cTup (caCons (cB gAddA (cSl (cV 3) coN (coS (cV 7))) (cSl (cV 3) (coS (cB gAddA (cV 7) (cK (.int 1)))) coN)) (caCons (cB gAddA (cB gAddA (cSl (cV 3) coN (coS (cV 7))) (cV 8)) (cSl (cV 3) (coS (cV 7)) coN)) (caCons (cB gAddA (cB gAddA (cSl (cV 3) coN (coS (cV 7))) (cV 8)) (cSl (cV 3) (coS (cB gAddA (cV 7) (cK (.int 1)))) coN)) (caCons (cSl (cV 3) coN (coS (cV 7))) caNil))))) (cCall m__law_next (caCons (cV 1) (caCons (cK (.int 4)) caNil)))))
    (cIfS (tNot (cT (cCall (m__law_same 30) (caCons (cCall m__law_asked (caCons (cV 9) caNil)) (caCons (cCall m__law_whole (caCons (cV 9) caNil)) caNil))))) (cRet (cK (.bl false))) cNext))))
    (cSeq (cAsg (tgT [(tgN 10), (tgN 11)]) (cTup (caCons (cTup caNil) (caCons (cK (.int 1)) caNil))))
    (cSeq (cFor (ciR1 (caCons (cB gAddA (cK (.int 39)) (cCall m__law_next (caCons (cV 1) (caCons (cK (.int 3)) caNil)))) caNil)) (tgN 12) (cAsg (tgN 11) (cB gMul (cV 11) (cK (.int 10)))))
    (cSeq (cAsg (tgN 11) (cB gSub (cV 11) (cCall m__law_next (caCons (cV 1) (caCons (cK (.int 2)) caNil)))))
    (cSeq (cFor (ciR1 (caCons (cB gAddA (cK (.int 18)) (cCall m__law_next (caCons (cV 1) (caCons (cK (.int 4)) caNil)))) caNil)) (tgN 12) (cAsg (tgN 10) (cIf (cTB (cB gEqA (cCall m__law_next (caCons (cV 1) (caCons (cK (.int 2)) caNil))) (cK (.int 0)))) (cTup (caCons (cV 10) (caCons (cK (.int 1)) caNil))) (cTup (caCons (cV 10) caNil)))))
    (cSeq (cForA (cTup (caCons (cV 10) (caCons (cV 11) (caCons (cU gNeg (cV 11)) (caCons (cTup (caCons (cK (.int 1)) (caCons (cV 11) caNil))) caNil))))) (tgN 13) (cSeq (cAsg (tgN 14) (cCall (m__law_show 26) (caCons (cV 13) (caCons (cK (.str " ")) caNil))))
    (cIfS (tNot (cT (cCall (m__law_same 30) (caCons (cLst (caCons (cCall m__law_asked (caCons (cV 14) caNil)) (caCons (cCall m_is_shown (caCons (cV 13) caNil)) caNil))) (caCons (cLst (caCons (cCall m__law_whole (caCons (cV 14) caNil)) (caCons (cB gEqA (cB gItem (cCall m__law_whole (caCons (cV 14) caNil)) (cK (.int 0))) (cK (.str "yes"))) caNil))) caNil))))) (cRet (cK (.bl false))) cNext)))
    (cSeq (cAsg (tgN 15) (cLst (caCons (cK (.int 1)) (caCons (cK (.str "a")) (caCons (cK .non) (caCons (cK (.bl true)) (caCons (cTup caNil) (caCons (cTup (caCons (cK (.str "a")) (caCons (cTup (caCons (cK (.int 1)) (caCons (cK .non) caNil))) caNil))) (caCons (cLst (caCons (cK (.int 1)) caNil)) (caCons (cTup (caCons (cK (.str "a")) (caCons (cLst (caCons (cK (.int 2)) caNil)) caNil))) (caCons (cDisp [((cK (.str "a")), (cK (.int 1)))]) (caCons (cTup (caCons (cK .non) (caCons (cLst caNil) caNil))) caNil))))))))))))
    (cSeq (cAsg (tgN 16) (cMeth "str" gJoin (cK (.str "")) (caCons (cLc (ciR1 (caCons (cCall m__law_next (caCons (cV 1) (caCons (cK (.int 6)) caNil))) caNil)) (tgN 12) ctYes (cB gItem (cK (.str "a'\\\n\t )")) (cCall m__law_next (caCons (cV 1) (caCons (cK (.int 7)) caNil)))) [12]) caNil)))
    (cRet (cCall (m__law_same 30) (caCons (cLst (caCons (cLc (ciIt (cV 15)) (tgN 13) ctYes (cCall m_is_shown (caCons (cV 13) caNil)) [13]) (caCons (cCall m_quoted (caCons (cV 16) caNil)) (caCons (cCall m__law_asked (caCons (cCall m_quoted (caCons (cV 16) caNil)) caNil)) caNil)))) (caCons (cLst (caCons (cB gAddA (cB gMul (cLst (caCons (cK (.bl true)) caNil)) (cK (.int 6))) (cB gMul (cLst (caCons (cK (.bl false)) caNil)) (cK (.int 4)))) (caCons (cCall m__law_quoted (caCons (cV 16) caNil)) (caCons (cTup (caCons (cK (.str "yes")) (caCons (cV 16) caNil))) caNil)))) caNil)))))))))))))))))
noncomputable def m_law : Sem' := runF 17 c_law
end K02

/-! the texts that stand in the program -/
namespace K02
open MP PySem
@[simp] theorem lit_0 : Str.ofString "" = tx [] := by decide +kernel
@[simp] theorem lit_1 : Str.ofString "'" = tx [39] := by decide +kernel
@[simp] theorem lit_2 : Str.ofString "\n" = tx [10] := by decide +kernel
@[simp] theorem lit_3 : Str.ofString "\t" = tx [9] := by decide +kernel
@[simp] theorem lit_4 : Str.ofString "\\" = tx [92] := by decide +kernel
@[simp] theorem lit_5 : Str.ofString "\\n" = tx [92, 110] := by decide +kernel
@[simp] theorem lit_6 : Str.ofString "\\t" = tx [92, 116] := by decide +kernel
@[simp] theorem lit_7 : Str.ofString "\\\\" = tx [92, 92] := by decide +kernel
@[simp] theorem lit_8 : Str.ofString "\\'" = tx [92, 39] := by decide +kernel
@[simp] theorem lit_9 : Str.ofString "none" = tx [110, 111, 110, 101] := by decide +kernel
@[simp] theorem lit_10 : Str.ofString ")" = tx [41] := by decide +kernel
@[simp] theorem lit_11 : Str.ofString "true" = tx [116, 114, 117, 101] := by decide +kernel
@[simp] theorem lit_12 : Str.ofString "false" = tx [102, 97, 108, 115, 101] := by decide +kernel
@[simp] theorem lit_13 : Str.ofString "(" = tx [40] := by decide +kernel
@[simp] theorem lit_14 : Str.ofString " " = tx [32] := by decide +kernel
@[simp] theorem lit_15 : Str.ofString " \n" = tx [32, 10] := by decide +kernel
@[simp] theorem lit_16 : Str.ofString "0" = tx [48] := by decide +kernel
@[simp] theorem lit_17 : Str.ofString "9" = tx [57] := by decide +kernel
@[simp] theorem lit_18 : Str.ofString "-" = tx [45] := by decide +kernel
@[simp] theorem lit_19 : Str.ofString "a" = tx [97] := by decide +kernel
@[simp] theorem lit_20 : Str.ofString "z" = tx [122] := by decide +kernel
@[simp] theorem lit_21 : Str.ofString "it's \\ ~\n" = tx [105, 116, 39, 115, 32, 92, 32, 126, 10] := by decide +kernel
@[simp] theorem lit_22 : Str.ofString "a\tb" = tx [97, 9, 98] := by decide +kernel
@[simp] theorem lit_23 : Str.ofString "yes" = tx [121, 101, 115] := by decide +kernel
@[simp] theorem lit_24 : Str.ofString "0123456789" = tx [48, 49, 50, 51, 52, 53, 54, 55, 56, 57] := by decide +kernel
@[simp] theorem lit_25 : Str.ofString "no" = tx [110, 111] := by decide +kernel
@[simp] theorem lit_26 : Str.ofString "other" = tx [111, 116, 104, 101, 114] := by decide +kernel
@[simp] theorem lit_27 : Str.ofString "  " = tx [32, 32] := by decide +kernel
@[simp] theorem lit_28 : Str.ofString "\n " = tx [10, 32] := by decide +kernel
@[simp] theorem lit_29 : Str.ofString "   \n" = tx [32, 32, 32, 10] := by decide +kernel
@[simp] theorem lit_30 : Str.ofString "()' -0a\\n\n\tez" = tx [40, 41, 39, 32, 45, 48, 97, 92, 110, 10, 9, 101, 122] := by decide +kernel
@[simp] theorem lit_31 : Str.ofString "a'\\\n\t )" = tx [97, 39, 92, 10, 9, 32, 41] := by decide +kernel
@[simp] theorem lit_32 : Str.ofString "n" = tx [110] := by decide +kernel
@[simp] theorem lit_33 : Str.ofString "t" = tx [116] := by decide +kernel
theorem lits : Str.ofString "" = tx [] ∧ Str.ofString "'" = tx [39] ∧ Str.ofString "\n" = tx [10] ∧ Str.ofString "\t" = tx [9] ∧ Str.ofString "\\" = tx [92] ∧ Str.ofString "\\n" = tx [92, 110] ∧ Str.ofString "\\t" = tx [92, 116] ∧ Str.ofString "\\\\" = tx [92, 92] ∧ Str.ofString "\\'" = tx [92, 39] ∧ Str.ofString "none" = tx [110, 111, 110, 101] ∧ Str.ofString ")" = tx [41] ∧ Str.ofString "true" = tx [116, 114, 117, 101] ∧ Str.ofString "false" = tx [102, 97, 108, 115, 101] ∧ Str.ofString "(" = tx [40] ∧ Str.ofString " " = tx [32] ∧ Str.ofString " \n" = tx [32, 10] ∧ Str.ofString "0" = tx [48] ∧ Str.ofString "9" = tx [57] ∧ Str.ofString "-" = tx [45] ∧ Str.ofString "a" = tx [97] ∧ Str.ofString "z" = tx [122] ∧ Str.ofString "it's \\ ~\n" = tx [105, 116, 39, 115, 32, 92, 32, 126, 10] ∧ Str.ofString "a\tb" = tx [97, 9, 98] ∧ Str.ofString "yes" = tx [121, 101, 115] ∧ Str.ofString "0123456789" = tx [48, 49, 50, 51, 52, 53, 54, 55, 56, 57] ∧ Str.ofString "no" = tx [110, 111] ∧ Str.ofString "other" = tx [111, 116, 104, 101, 114] ∧ Str.ofString "  " = tx [32, 32] ∧ Str.ofString "\n " = tx [10, 32] ∧ Str.ofString "   \n" = tx [32, 32, 32, 10] ∧ Str.ofString "()' -0a\\n\n\tez" = tx [40, 41, 39, 32, 45, 48, 97, 92, 110, 10, 9, 101, 122] ∧ Str.ofString "a'\\\n\t )" = tx [97, 39, 92, 10, 9, 32, 41] ∧ Str.ofString "n" = tx [110] ∧ Str.ofString "t" = tx [116] := ⟨lit_0, lit_1, lit_2, lit_3, lit_4, lit_5, lit_6, lit_7, lit_8, lit_9, lit_10, lit_11, lit_12, lit_13, lit_14, lit_15, lit_16, lit_17, lit_18, lit_19, lit_20, lit_21, lit_22, lit_23, lit_24, lit_25, lit_26, lit_27, lit_28, lit_29, lit_30, lit_31, lit_32, lit_33⟩
end K02

namespace K02
open MP PySem L2
/-! ### the tape -/
def T (ns : List Int) (i rest st : Int) : List O := [.lst [.lst (ns.map D.int), .int i, .int rest, .int st]]
structure StOk (i rest st : Int) : Prop where
  i0 : 0 ≤ i
  r0 : 0 ≤ rest
  s0 : 0 ≤ st
theorem lookB : ∀ (fr : List (List O)) (t : List O) (j : Nat), look (fr ++ [t]) 0 j = t[j]?
  | [], t, j => rfl
  | r :: fr, t, j => by
    show (if 0 = (fr ++ [t]).length then r[j]? else look (fr ++ [t]) 0 j) = _
    rw [if_neg (by simp), lookB fr t j]
theorem putB : ∀ (fr : List (List O)) (t : List O) (j : Nat) (o : O), put (fr ++ [t]) 0 j o = fr ++ [t.set j o]
  | [], t, j, o => rfl
  | r :: fr, t, j, o => by
    show (if 0 = (fr ++ [t]).length then r.set j o :: (fr ++ [t]) else r :: put (fr ++ [t]) 0 j o) = _
    rw [if_neg (by simp), putB fr t j o]; rfl
theorem lookB' (r : List O) (fr : List (List O)) (t : List O) (j : Nat) : look (r :: (fr ++ [t])) 0 j = t[j]? := lookB (r :: fr) t j
theorem putB' (r : List O) (fr : List (List O)) (t : List O) (j : Nat) (o : O) : put (r :: (fr ++ [t])) 0 j o = r :: (fr ++ [t.set j o]) := putB (r :: fr) t j o
theorem next_ok {ns : List Int} {i rest st many : Int} (fr : List (List O)) (t : StOk i rest st) (hm : 0 < many ∧ many < 1073741824) :
    ∃ r i' rest' st', StOk i' rest' st' ∧ 0 ≤ r ∧ r < many ∧ m__law_next [.ref 0 0, .int many] (fr ++ [T ns i rest st]) = .ok (.int r) (fr ++ [T ns i' rest' st']) := by
  obtain ⟨hi, hr, hs⟩ := t
  have hmod : ∀ x : Int, 0 ≤ x % many ∧ x % many < many := fun x => ⟨Int.emod_nonneg _ (by omega), Int.emod_lt_of_pos _ hm.1⟩
  by_cases h0 : rest = 0
  · subst h0
    by_cases hl : i < ns.length
    · by_cases hc : (if ns[i.toNat]'(by omega) < 0 then -ns[i.toNat]'(by omega) else ns[i.toNat]'(by omega)) < 1000000000000000000
      · refine ⟨_, _, _, _, ?_, ?_, ?_, by simp [m__law_next, c__law_next, runF_eq, T, lookB', atI_nn, hm, ixN, D.les, D.le, putB', hl, hi, hc]; exact ⟨rfl, rfl, rfl, rfl⟩⟩
        · exact ⟨by omega, by omega, Int.emod_nonneg _ (by decide)⟩
        · exact (hmod _).1
        · exact (hmod _).2
      · refine ⟨_, _, _, _, ?_, ?_, ?_, by simp [m__law_next, c__law_next, runF_eq, T, lookB', atI_nn, hm, ixN, D.les, D.le, putB', hl, hi, hc]; exact ⟨rfl, rfl, rfl, rfl⟩⟩
        · refine ⟨by omega, ?_, hs⟩
          have : 0 ≤ (if ns[i.toNat]'(by omega) < 0 then -ns[i.toNat]'(by omega) else ns[i.toNat]'(by omega)) := by split <;> omega
          exact Int.ediv_nonneg this (by omega)
        · exact (hmod _).1
        · exact (hmod _).2
    · refine ⟨_, _, _, _, ?_, ?_, ?_, by simp [m__law_next, c__law_next, runF_eq, T, lookB', atI_nn, hm, ixN, D.les, D.le, putB', hl]; exact ⟨rfl, rfl, rfl, rfl⟩⟩
      · exact ⟨by omega, by omega, Int.emod_nonneg _ (by decide)⟩
      · exact (hmod _).1
      · exact (hmod _).2
  · refine ⟨_, _, _, _, ?_, ?_, ?_, by simp [m__law_next, c__law_next, runF_eq, T, lookB', atI_nn, h0, hm, ixN, D.les, D.le, putB']; exact ⟨rfl, rfl, rfl, rfl⟩⟩
    · exact ⟨by omega, Int.ediv_nonneg hr (by omega), hs⟩
    · exact (hmod _).1
    · exact (hmod _).2
theorem same_eq : m__law_same = m_sameA := by
  funext k
  induction k with
  | zero => rfl
  | succ k ih =>
    show runF 3 (c__law_same (m__law_same k)) = runF 3 (c_sameA (m_sameA k))
    rw [ih]
    rfl
end K02

namespace K02
open MP PySem L2
/-! ### the reader, over what is left of the text -/
def blank (c : Nat) : Bool := decide (c = 32 ∨ c = 10)
def skipL (r : List Nat) : List Nat := r.dropWhile blank
theorem skipL_cons (c : Nat) (r : List Nat) : skipL (c :: r) = if blank c then skipL r else c :: r := by
  unfold skipL; rw [List.dropWhile_cons]
theorem dw_len (p : Nat → Bool) : ∀ l : List Nat, (l.dropWhile p).length ≤ l.length
  | [] => Nat.le_refl _
  | c :: r => by
    rw [List.dropWhile_cons]
    split
    · exact Nat.le_succ_of_le (dw_len p r)
    · exact Nat.le_refl _
/-- a later place -/
theorem _root_.MP.At.later {a : List Nat} {p : Nat} {r r' : List Nat} (h : At a p r) (u : List Nat) (e : r = u ++ r') : At a (a.length - r'.length) r' := by
  subst e
  have := h.over
  have e2 := this.pos
  rw [← e2]; exact this
theorem dw_split (p : Nat → Bool) (l : List Nat) : l = l.takeWhile p ++ l.dropWhile p := List.takeWhile_append_dropWhile.symm
theorem _root_.MP.At.skip {a : List Nat} {p : Nat} {r : List Nat} (h : At a p r) : At a (a.length - (skipL r).length) (skipL r) := h.later _ (dw_split blank r)
def pl (a r : List Nat) : D := .int ((a.length - r.length : Nat) : Int)
theorem _root_.MP.At.pl {a : List Nat} {p : Nat} {r : List Nat} (h : At a p r) : D.int (p : Int) = K02.pl a r := by
  rw [h.pos]; rfl
theorem _root_.MP.At.pl1 {a : List Nat} {p : Nat} {r : List Nat} (h : At a (p + 1) r) : D.int ((p : Int) + 1) = K02.pl a r := h.pl
theorem skip_loop (a : List Nat) (ha : a.length ≤ 16000000) (S : Sto) : ∀ (r : List Nat) (p : Nat), At a p r →
    cWhile (tAnd (cTB (cB gLtA (cV 1) (cCall gLenA (caCons (cV 0) caNil)))) (cTB (cB gMem (cB gItem (cV 0) (cV 1)) (cK (.str " \n"))))) (cAug 1 gIAddA (cK (.int 1))) [some (.str (tx a)), some (.int p)] S = .nx [some (.str (tx a)), some (pl a (skipL r))] S
  | [], p, h => by
    have e := h.len
    rw [cWhile_end (S1 := S)]
    · rw [h.pl]; rfl
    · simp at e
      simp [ha, e]
  | c :: r, p, h => by
    have e := h.len
    have e2 : (p : Int) < a.length := by simp at e; omega
    by_cases hb : blank c = true
    · have hb2 : c = 32 ∨ c = 10 := of_decide_eq_true hb
      rw [cWhile_go (S1 := S) (S2 := S) (ρ2 := [some (.str (tx a)), some (.int ((p : Int) + 1))])]
      · rw [skipL_cons, if_pos hb]
        exact skip_loop a ha S r (p + 1) h.step
      · simp [ha, e2, h.ix, hb2]
      · simp
    · have hb2 : ¬ (c = 32 ∨ c = 10) := fun z => hb (decide_eq_true z)
      rw [cWhile_end (S1 := S)]
      · rw [skipL_cons, if_neg hb, ← h.pl]
      · simp [ha, e2, h.ix, hb2]
theorem skipped_ok {a : List Nat} (ha : a.length ≤ 16000000) {p : Nat} {r : List Nat} (h : At a p r) (S : Sto) : m_skipped [.str (tx a), .int p] S = .ok (pl a (skipL r)) S := by
  have e := skip_loop a ha ([] :: S) r p h
  simp only [m_skipped, c_skipped, runF_eq]
  simp only [lits] at e
  simp [e, pl]
theorem lskip_loop (a : List Nat) (ha : a.length ≤ 16000000) (S : Sto) : ∀ (r : List Nat) (p : Nat), At a p r →
    cWhile (tAnd (cTB (cB gNeA (cSl (cV 0) (coS (cV 1)) (coS (cB gAddA (cV 1) (cK (.int 1))))) (cK (.str "")))) (cTB (cB gMem (cB gItem (cV 0) (cV 1)) (cK (.str " \n"))))) (cAsg (tgN 1) (cB gAddA (cV 1) (cK (.int 1)))) [some (.str (tx a)), some (.int p)] S = .nx [some (.str (tx a)), some (pl a (skipL r))] S
  | [], p, h => by
    rw [cWhile_end (S1 := S)]
    · rw [h.pl]; rfl
    · simp [ha, h.cut1]
  | c :: r, p, h => by
    by_cases hb : blank c = true
    · have hb2 : c = 32 ∨ c = 10 := of_decide_eq_true hb
      rw [cWhile_go (S1 := S) (S2 := S) (ρ2 := [some (.str (tx a)), some (.int ((p : Int) + 1))])]
      · rw [skipL_cons, if_pos hb]
        exact lskip_loop a ha S r (p + 1) h.step
      · simp [ha, h.cut1, h.ix, hb2]
      · simp
    · have hb2 : ¬ (c = 32 ∨ c = 10) := fun z => hb (decide_eq_true z)
      rw [cWhile_end (S1 := S)]
      · rw [skipL_cons, if_neg hb, ← h.pl]
      · simp [ha, h.cut1, h.ix, hb2]
theorem lskip_ok {a : List Nat} (ha : a.length ≤ 16000000) {p : Nat} {r : List Nat} (h : At a p r) (S : Sto) : m__law_skip [.str (tx a), .int p] S = .ok (pl a (skipL r)) S := by
  have e := lskip_loop a ha ([] :: S) r p h
  simp only [m__law_skip, c__law_skip, runF_eq]
  simp only [lits] at e
  simp [e, pl]
end K02

namespace K02
open MP PySem L2
/-- what was read, what is left; or the place where it fails -/
inductive Rd (α : Type) | ok (v : α) (r : List Nat) | no (r : List Nat)
def esc (e : Nat) : Option Nat := if e = 110 then some 10 else if e = 116 then some 9 else if e = 92 then some 92 else if e = 39 then some 39 else none
def quoteL : List Nat → List Nat → Rd (List Nat)
  | [], _ => .no []
  | c :: r, acc => if c = 39 then .ok acc r else if c = 92 then (match r with
    | [] => .no [c]
    | e :: r' => match esc e with
      | some d => quoteL r' (acc ++ [d])
      | none => .no (c :: e :: r')) else quoteL r (acc ++ [c])
theorem quoteL_39 (r acc : List Nat) : quoteL (39 :: r) acc = .ok acc r := by unfold quoteL; rw [if_pos rfl]
theorem quoteL_end (acc : List Nat) : quoteL [92] acc = .no [92] := by unfold quoteL; rfl
theorem quoteL_esc (e : Nat) (r acc : List Nat) : quoteL (92 :: e :: r) acc = match esc e with
    | some d => quoteL r (acc ++ [d])
    | none => .no (92 :: e :: r) := by conv => lhs; unfold quoteL; rw [if_neg (by decide), if_pos rfl]
theorem quoteL_oth {c : Nat} (h1 : c ≠ 39) (h2 : c ≠ 92) (r acc : List Nat) : quoteL (c :: r) acc = quoteL r (acc ++ [c]) := by conv => lhs; unfold quoteL; rw [if_neg h1, if_neg h2]
def inv (p : D) : Exn := ⟨"InvalidText", [("name", .str "InvalidText"), ("place", p)]⟩
theorem leaveX_inv (i : Int) (r : List O) (S : Sto) : leaveX (inv (.int i)) (r :: S) = .err (inv (.int i)) S := by
  simp [leaveX, inv, fzF, D.fz]
theorem quote_loop (a : List Nat) (ha : a.length ≤ 16000000) (S : Sto) (t : CT) (b : CS)
    (ht : ∀ (r : List Nat) (p : Nat) (x y : Option D), At a p r → t [some (.str (tx a)), some (.int p), x, y] S = .ok (!decide (r.take 1 = [39])) S)
    (hb0 : ∀ (p : Nat) (acc : List Nat) (y : Option D), At a p [] → ∃ ρ, b [some (.str (tx a)), some (.int p), some (.str (tx acc)), y] S = .err (inv (pl a [])) ρ S)
    (hb1 : ∀ (c : Nat) (r : List Nat) (p : Nat) (acc : List Nat) (y : Option D), acc.length < 16000000 → c ≠ 92 → At a p (c :: r) → ∃ y', b [some (.str (tx a)), some (.int p), some (.str (tx acc)), y] S = .nx [some (.str (tx a)), some (.int ((p : Int) + 1)), some (.str (tx (acc ++ [c]))), y'] S)
    (hb2 : ∀ (e d : Nat) (r : List Nat) (p : Nat) (acc : List Nat) (y : Option D), acc.length < 16000000 → esc e = some d → At a p (92 :: e :: r) → ∃ y', b [some (.str (tx a)), some (.int p), some (.str (tx acc)), y] S = .nx [some (.str (tx a)), some (.int ((p : Int) + 1 + 1)), some (.str (tx (acc ++ [d]))), y'] S)
    (hb3 : ∀ (r : List Nat) (p : Nat) (acc : List Nat) (y : Option D), (∀ e r', r = e :: r' → esc e = none) → At a p (92 :: r) → ∃ ρ, b [some (.str (tx a)), some (.int p), some (.str (tx acc)), y] S = .err (inv (pl a (92 :: r))) ρ S) :
    ∀ (n : Nat) (r : List Nat), r.length ≤ n → ∀ (p : Nat) (acc : List Nat) (y : Option D), At a p r → acc.length + r.length ≤ 16000000 →
      match quoteL r acc with
      | .ok v r' => ∃ p' y', At a p' (39 :: r') ∧ cWhile t b [some (.str (tx a)), some (.int p), some (.str (tx acc)), y] S = .nx [some (.str (tx a)), some (.int (p' : Int)), some (.str (tx v)), y'] S
      | .no r' => ∃ ρ, cWhile t b [some (.str (tx a)), some (.int p), some (.str (tx acc)), y] S = .err (inv (pl a r')) ρ S := by
  intro n
  induction n with
  | zero =>
    intro r hr p acc y h hl
    obtain rfl : r = [] := List.length_eq_zero_iff.mp (by omega)
    obtain ⟨ρ, e⟩ := hb0 p acc y h
    exact ⟨ρ, cWhile_err (ht [] p _ _ h) e⟩
  | succ n ih =>
    intro r hr p acc y h hl
    cases r with
    | nil =>
      obtain ⟨ρ, e⟩ := hb0 p acc y h
      exact ⟨ρ, cWhile_err (ht [] p _ _ h) e⟩
    | cons c r =>
      have ht1 := ht (c :: r) p (some (.str (tx acc))) y h
      rw [List.length_cons] at hl hr
      by_cases c39 : c = 39
      · subst c39
        rw [quoteL_39]
        exact ⟨p, y, h, cWhile_end (by rw [ht1]; simp)⟩
      · have ht2 : t [some (.str (tx a)), some (.int p), some (.str (tx acc)), y] S = .ok true S := by rw [ht1]; simp [c39]
        by_cases c92 : c = 92
        · subst c92
          cases r with
          | nil =>
            obtain ⟨ρ, e⟩ := hb3 [] p acc y (fun _ _ q => by cases q) h
            rw [quoteL_end]
            exact ⟨ρ, cWhile_err ht2 e⟩
          | cons e r =>
            cases he : esc e with
            | none =>
              obtain ⟨ρ, q⟩ := hb3 (e :: r) p acc y (fun _ _ q => by cases q; exact he) h
              rw [quoteL_esc]; simp only [he]
              exact ⟨ρ, cWhile_err ht2 q⟩
            | some d =>
              obtain ⟨y', q⟩ := hb2 e d r p acc y (by omega) he h
              rw [cWhile_go ht2 q]
              rw [quoteL_esc]; simp only [he]
              rw [List.length_cons] at hl hr
              exact ih r (by omega) (p + 1 + 1) (acc ++ [d]) y' h.step.step (by simp; omega)
        · obtain ⟨y', q⟩ := hb1 c r p acc y (by omega) c92 h
          rw [cWhile_go ht2 q]
          have e2 : quoteL (c :: r) acc = quoteL r (acc ++ [c]) := quoteL_oth c39 c92 r acc
          rw [e2]
          exact ih r (by omega) (p + 1) (acc ++ [c]) y' h.step (by simp; omega)
theorem quote_ok {a : List Nat} (ha : a.length ≤ 16000000) {p : Nat} {r : List Nat} (h : At a p r) (S : Sto) :
    m_quote_at [.str (tx a), .int p] S = match quoteL r [] with
      | .ok v r' => .ok (.tup [.str (tx v), pl a (skipL r')]) S
      | .no r' => .err (inv (pl a r')) S := by
  have L := quote_loop a ha ([] :: S)
    (cTB (cB gNeA (cSl (cV 0) (coS (cV 1)) (coS (cB gAddA (cV 1) (cK (.int 1))))) (cK (.str "'"))))
    (cSeq (cAsg (tgN 3) (cSl (cV 0) (coS (cV 1)) (coS (cB gAddA (cV 1) (cK (.int 1))))))
    (cSeq (cIfS (cTB (cB gEqA (cV 3) (cK (.str "")))) (cRaise "InvalidText" (cV 1)) cNext)
    (cSeq (cIfS (cTB (cB gEqA (cV 3) (cK (.str "\\")))) (cSeq (cAsg (tgN 3) (cTg2 t_SHORT (cSl (cV 0) (coS (cB gAddA (cV 1) (cK (.int 1)))) (coS (cB gAddA (cV 1) (cK (.int 2))))) (cK (.str ""))))
    (cSeq (cIfS (cTB (cB gEqA (cV 3) (cK (.str "")))) (cRaise "InvalidText" (cV 1)) cNext)
    (cAug 1 gIAddA (cK (.int 1))))) cNext)
    (cSeq (cAug 2 gIAddA (cV 3))
    (cAug 1 gIAddA (cK (.int 1)))))))
    (fun r p x y h => by simp [ha, h.cut1])
    (fun p acc y h => by rw [← h.pl]; simp [ha, h.cut1, inv])
    (fun c r p acc y hl hc h => by
      have : acc.length + 1 ≤ 16000000 := by omega
      simp [ha, h.cut1, hc, this])
    (fun e d r p acc y hl he h => by
      have : acc.length + 1 ≤ 16000000 := by omega
      have q : cutL a (some ((p : Int) + 1)) (some ((p : Int) + 2)) = [e] := h.step.cut 1
      unfold esc at he
      split at he
      · cases he; subst_vars; simp [ha, h.cut1, q, t_SHORT, tabGet, this]
      · split at he
        · cases he; subst_vars; simp [ha, h.cut1, q, t_SHORT, tabGet, this]
        · split at he
          · cases he; subst_vars; simp [ha, h.cut1, q, t_SHORT, tabGet, this]
          · split at he
            · cases he; subst_vars; simp [ha, h.cut1, q, t_SHORT, tabGet, this]
            · cases he)
    (fun r p acc y he h => by
      have q : cutL a (some ((p : Int) + 1)) (some ((p : Int) + 2)) = r.take 1 := h.step.cut 1
      rw [← h.pl]
      cases r with
      | nil => simp [ha, h.cut1, q, t_SHORT, tabGet, inv]
      | cons e r =>
        have := he e r rfl
        unfold esc at this
        split at this
        · cases this
        · split at this
          · cases this
          · split at this
            · cases this
            · split at this
              · cases this
              · rename_i n1 n2 n3 n4
                simp [ha, h.cut1, q, t_SHORT, tabGet, inv, Ne.symm n1, Ne.symm n2, Ne.symm n3, Ne.symm n4])
    r.length r (Nat.le_refl _) p [] none h (by have := h.len; simp; omega)
  simp only [lits] at L
  cases q : quoteL r [] with
  | ok v r' =>
    rw [q] at L
    obtain ⟨p', y', h', e⟩ := L
    simp only [m_quote_at, c_quote_at, runF_eq]
    have s := skipped_ok ha h'.step ([] :: S)
    have s' : m_skipped [.str (tx a), .int ((p' : Int) + 1)] ([] :: S) = .ok (pl a (skipL r')) ([] :: S) := s
    simp [e, s']
  | no r' =>
    rw [q] at L
    obtain ⟨ρ, e⟩ := L
    simp only [m_quote_at, c_quote_at, runF_eq]
    simp [e]
    exact leaveX_inv _ _ _
end K02

namespace K02
open MP PySem L2
/-! ### whole numbers -/
def isDig (c : Nat) : Bool := decide (48 ≤ c) && decide (c ≤ 57)
def isLow (c : Nat) : Bool := decide (97 ≤ c) && decide (c ≤ 122)
/-- signs that a loop walks over -/
theorem walk_loop (q : Nat → Bool) (a : List Nat) (S : Sto) (t : CT) (b : CS) (mk : Int → Ro)
    (ht : ∀ (c : Nat) (r : List Nat) (p : Nat), At a p (c :: r) → t (mk p) S = .ok (q c) S) (ht0 : ∀ (p : Nat), At a p [] → t (mk p) S = .ok false S) (hb : ∀ p : Nat, b (mk p) S = .nx (mk ((p : Int) + 1)) S) :
    ∀ (r : List Nat) (p : Nat), At a p r → cWhile t b (mk p) S = .nx (mk ((a.length - (r.dropWhile q).length : Nat) : Int)) S
  | [], p, h => by
    rw [cWhile_end (ht0 p h)]
    have := h.pos
    rw [List.dropWhile_nil, ← this]
  | c :: r, p, h => by
    have e := ht c r p h
    cases hq : q c with
    | true =>
      rw [hq] at e
      rw [cWhile_go e (hb p), List.dropWhile_cons, if_pos hq]
      exact walk_loop q a S t b mk ht ht0 hb r (p + 1) h.step
    | false =>
      rw [hq] at e
      rw [cWhile_end e, List.dropWhile_cons, if_neg (by rw [hq]; exact Bool.false_ne_true), ← h.pos]
theorem lt1 (c d : Nat) : ([c] < [d]) ↔ c < d := by
  rw [List.cons_lt_cons_iff]
  simp
theorem lt_nil (d : Nat) : (([] : List Nat) < [d]) := List.nil_lt_cons ..
theorem dig_chain (c : Nat) : ((!decide ([c] < [48])) && (!decide ([57] < [c]))) = isDig c := by
  unfold isDig
  simp only [lt1]
  by_cases h1 : c < 48 <;> by_cases h2 : 57 < c <;> simp [h1, h2] <;> omega
theorem low_chain (c : Nat) : ((!decide ([c] < [97])) && (!decide ([122] < [c]))) = isLow c := by
  unfold isLow
  simp only [lt1]
  by_cases h1 : c < 97 <;> by_cases h2 : 122 < c <;> simp [h1, h2] <;> omega
/-- a <= x <= z over one sign -/
theorem chain1 (x : C) (lo hi c : Nat) (ρ : Ro) (S : Sto) (h : ∀ S, x ρ S = .ok (.str (tx [c])) S) : cTB (cChain gLeA gLeA (cK (.str (tx [lo]))) x (cK (.str (tx [hi])))) ρ S = .ok (decide (lo ≤ c) && decide (c ≤ hi)) S := by
  have e1 : (!decide ([c] < [lo])) = decide (lo ≤ c) := by simp only [lt1]; by_cases h : c < lo <;> simp [h] <;> omega
  have e2 : (!decide ([hi] < [c])) = decide (c ≤ hi) := by simp only [lt1]; by_cases h : hi < c <;> simp [h] <;> omega
  by_cases h1 : lo ≤ c
  · simp [h, e1, e2, h1]
  · simp [h]
    simp only [lt1]
    simp [h1]
    have : c < lo := by omega
    simp [this]
theorem chain0 (x : C) (lo hi : Nat) (ρ : Ro) (S : Sto) (h : ∀ S, x ρ S = .ok (.str (tx [])) S) : cTB (cChain gLeA gLeA (cK (.str (tx [lo]))) x (cK (.str (tx [hi])))) ρ S = .ok false S := by
  simp [h]
def neg? : List Nat → Bool
  | 45 :: _ => true
  | _ => false
def digs (r : List Nat) : List Nat := if neg? r then r.drop 1 else r
def numV (r : List Nat) : Int := if neg? r then -((NumText.digitsVal ((digs r).takeWhile isDig) : Nat) : Int) else ((NumText.digitsVal ((digs r).takeWhile isDig) : Nat) : Int)
def intL (r : List Nat) : Rd Int :=
  if (digs r).takeWhile isDig = [] then .no (digs r) else if 40 < ((digs r).takeWhile isDig).length then .no r else .ok (numV r) ((digs r).dropWhile isDig)
theorem neg_cons (c : Nat) (r : List Nat) : neg? (c :: r) = decide (c = 45) := by
  unfold neg?
  split
  · rename_i h; cases h; rfl
  · rename_i h
    by_cases e : c = 45
    · subst e; exact absurd rfl (h r)
    · simp [e]
theorem tw_all (q : Nat → Bool) : ∀ (l : List Nat), ∀ c ∈ l.takeWhile q, q c = true
  | [], c, h => by simp at h
  | d :: l, c, h => by
    rw [List.takeWhile_cons] at h
    split at h
    · rename_i hd
      rcases List.mem_cons.mp h with rfl | h
      · exact hd
      · exact tw_all q l c h
    · simp at h
/-- int(text) of what was walked over -/
theorem int_text (r : List Nat) (h1 : (digs r).takeWhile isDig ≠ []) (h2 : ((digs r).takeWhile isDig).length ≤ 40) (S : Sto) :
    gIntA [.str (tx ((if neg? r then [45] else []) ++ (digs r).takeWhile isDig))] S = .ok (.int (numV r)) S := by
  have hd : ∀ c ∈ (digs r).takeWhile isDig, 48 ≤ c ∧ c ≤ 57 := fun c hc => by
    have := tw_all isDig _ c hc
    unfold isDig at this
    simpa using this
  unfold numV
  cases hn : neg? r with
  | true =>
    refine gIntA_s _ _ ?_ (by simp; omega)
    exact intText_neg (x := tx (45 :: (digs r).takeWhile isDig)) (cs := (digs r).takeWhile isDig) rfl hd h1 (by simp; omega)
  | false =>
    refine gIntA_s _ _ ?_ (by simp; omega)
    exact intText_digits (x := tx ((digs r).takeWhile isDig)) hd h1 (by simp; omega)
theorem integer_ok {a : List Nat} (ha : a.length ≤ 16000000) {p c : Nat} {r : List Nat} (h : At a p (c :: r)) (hc : c = 45 ∨ isDig c = true) (S : Sto) :
    m_integer_at [.str (tx a), .int p] S = match intL (c :: r) with
      | .ok v r' => .ok (.tup [.int v, pl a (skipL r')]) S
      | .no r' => .err (inv (pl a r')) S := by
  obtain ⟨s, hs, hs2⟩ : ∃ s : Nat, s = p + (if c = 45 then 1 else 0) ∧ At a s (digs (c :: r)) := by
    unfold digs
    rw [neg_cons]
    by_cases e : c = 45
    · simp only [e, if_true, decide_true]; exact ⟨_, rfl, by subst e; exact h.step⟩
    · simp only [e, if_false, decide_false]; exact ⟨_, rfl, h⟩
  have hs3 : (p : Int) + (if c = 45 then 1 else 0) = (s : Int) := by subst hs; by_cases e : c = 45 <;> simp [e]
  have q := hs2.later _ (dw_split isDig (digs (c :: r)))
  have hsp := hs2.len
  have hsplit := congrArg List.length (dw_split isDig (digs (c :: r)))
  rw [List.length_append] at hsplit
  have L := walk_loop isDig a ([] :: S) (cTB (cChain gLeA gLeA (cK (.str (tx [48]))) (cSl (cV 0) (coS (cV 2)) (coS (cB gAddA (cV 2) (cK (.int 1))))) (cK (.str (tx [57]))))) (cAug 2 gIAddA (cK (.int 1)))
    (fun e => [some (.str (tx a)), some (.int p), some (.int e), some (.int s)])
    (fun c r p h => chain1 _ 48 57 c _ _ fun S => by simp [ha, h.cut1])
    (fun p h => chain0 _ 48 57 _ _ fun S => by simp [ha, h.cut1])
    (fun p => by simp) (digs (c :: r)) s hs2
  have bt : cutL a (some (p : Int)) (some ((a.length - ((digs (c :: r)).dropWhile isDig).length : Nat) : Int)) = (if neg? (c :: r) then [45] else []) ++ (digs (c :: r)).takeWhile isDig := by
    refine At.between (r := (digs (c :: r)).dropWhile isDig) ?_ q
    have e : (if neg? (c :: r) then [45] else []) ++ (digs (c :: r)).takeWhile isDig ++ (digs (c :: r)).dropWhile isDig = c :: r := by
      rw [List.append_assoc, ← dw_split]
      unfold digs
      rw [neg_cons]
      by_cases e : c = 45 <;> simp [e]
    rw [e]; exact h
  have it := int_text (c :: r)
  generalize hT : (digs (c :: r)).takeWhile isDig = ds at *
  generalize hR : (digs (c :: r)).dropWhile isDig = rs at *
  have hq : (a.length - rs.length : Nat) = s + ds.length := by omega
  have sk := skipped_ok ha q ([] :: S)
  have e1 : (((a.length - rs.length : Nat) : Int) = (s : Int)) ↔ ds = [] := by
    rw [hq, ← List.length_eq_zero_iff]; omega
  have e2 : ((s : Int) + 40 < ((a.length - rs.length : Nat) : Int)) ↔ 40 < ds.length := by rw [hq]; omega
  simp only [m_integer_at, c_integer_at, runF_eq]
  unfold intL
  rw [hT, hR]
  by_cases d0 : ds = []
  · have e1' := e1.mpr d0
    simp [ha, h.ix, hs3, L, e1', d0]
    rw [← hs2.pl]
    exact leaveX_inv _ _ _
  · have e1' : ¬ ((a.length - rs.length : Nat) : Int) = (s : Int) := fun z => d0 (e1.mp z)
    by_cases d1 : 40 < ds.length
    · have e2' := e2.mpr d1
      simp [ha, h.ix, hs3, L, e1', d0, e2', d1]
      rw [← h.pl]
      exact leaveX_inv _ _ _
    · have e2' : ¬ ((s : Int) + 40 < ((a.length - rs.length : Nat) : Int)) := fun z => d1 (e2.mp z)
      have it' := it d0 (by omega) ([] :: S)
      simp [ha, h.ix, hs3, L, e1', d0, e2', d1, bt, it', sk]
end K02

namespace K02
open MP PySem L2
/-! ### values -/
def wordL (r : List Nat) : Rd D :=
  if r.takeWhile isLow = [110, 111, 110, 101] then .ok .non (skipL (r.dropWhile isLow))
  else if r.takeWhile isLow = [116, 114, 117, 101] then .ok (.bl true) (skipL (r.dropWhile isLow))
  else if r.takeWhile isLow = [102, 97, 108, 115, 101] then .ok (.bl false) (skipL (r.dropWhile isLow)) else .no r
def isNum : List Nat → Bool
  | c :: _ => decide (c = 45) || isDig c
  | [] => false
def leafL (r : List Nat) : Rd D :=
  if r.take 1 = [39] then (match quoteL (r.drop 1) [] with
    | .ok v r2 => .ok (.str (tx v)) (skipL r2)
    | .no p => .no p)
  else if isNum r then (match intL r with
    | .ok v r2 => .ok (.int v) (skipL r2)
    | .no p => .no p)
  else wordL r
def elemsL (val : List Nat → Rd D) : Nat → List D → List Nat → Rd (List D)
  | 0, _, r => .no r
  | n + 1, acc, r => if r.take 1 = [41] then .ok acc (r.drop 1) else match val r with
    | .ok v r2 => elemsL val n (acc ++ [v]) r2
    | .no p => .no p
def valueL : Nat → List Nat → Rd D
  | 0, r => if r.take 1 = [40] then .no r else leafL r
  | d + 1, r => if r.take 1 = [40] then (match elemsL (valueL d) (r.length + 1) [] (skipL (r.drop 1)) with
      | .ok vs r2 => .ok (.tup vs) (skipL r2)
      | .no p => .no p) else leafL r
/-- what is left is a tail, and something was read -/
structure Less (r2 r : List Nat) : Prop where
  suf : r2 <:+ r
  lt : r2.length < r.length
theorem skip_suf (r : List Nat) : skipL r <:+ r := List.dropWhile_suffix _
theorem Less.of {r2 r1 r : List Nat} (h : Less r1 r) (s : r2 <:+ r1) : Less r2 r := ⟨s.trans h.suf, by have := s.length_le; have := h.lt; omega⟩
theorem Less.skip {r2 r : List Nat} (h : Less r2 r) : Less (skipL r2) r := h.of (skip_suf _)
theorem _root_.MP.At.suf {a : List Nat} {p : Nat} {r r' : List Nat} (h : At a p r) (s : r' <:+ r) : At a (a.length - r'.length) r' := by
  obtain ⟨u, e⟩ := s
  exact h.later u e.symm
theorem quote_less : ∀ (n : Nat) (r acc : List Nat), r.length ≤ n → ∀ v r2, quoteL r acc = .ok v r2 → Less r2 r := by
  intro n
  induction n with
  | zero =>
    intro r acc hn v r2 h
    obtain rfl : r = [] := List.length_eq_zero_iff.mp (by omega)
    unfold quoteL at h; cases h
  | succ n ih =>
    intro r acc hn v r2 h
    cases r with
    | nil => unfold quoteL at h; cases h
    | cons c r =>
      rw [List.length_cons] at hn
      by_cases c39 : c = 39
      · subst c39
        rw [quoteL_39] at h; cases h
        exact ⟨List.suffix_cons _ _, by simp⟩
      · by_cases c92 : c = 92
        · subst c92
          cases r with
          | nil => rw [quoteL_end] at h; cases h
          | cons e r =>
            rw [quoteL_esc] at h
            rw [List.length_cons] at hn
            cases he : esc e with
            | none => simp only [he] at h; cases h
            | some d =>
              simp only [he] at h
              have := ih r _ (by omega) v r2 h
              exact ⟨this.suf.trans ((List.suffix_cons _ _).trans (List.suffix_cons _ _)), by have := this.lt; simp; omega⟩
        · rw [quoteL_oth c39 c92] at h
          have := ih r _ (by omega) v r2 h
          exact ⟨this.suf.trans (List.suffix_cons _ _), by have := this.lt; simp; omega⟩
theorem tw_dw_len (q : Nat → Bool) (l : List Nat) : (l.takeWhile q).length + (l.dropWhile q).length = l.length := by
  have := congrArg List.length (dw_split q l)
  rw [List.length_append] at this; omega
theorem digs_suf (r : List Nat) : digs r <:+ r := by
  unfold digs; split
  · exact List.drop_suffix _ _
  · exact List.suffix_refl _
theorem int_less {r r2 : List Nat} {v : Int} (h : intL r = .ok v r2) : Less r2 r := by
  unfold intL at h
  split at h
  · cases h
  · rename_i h0
    split at h
    · cases h
    · cases h
      have h1 := tw_dw_len isDig (digs r)
      have h2 := (digs_suf r).length_le
      have h3 : 0 < ((digs r).takeWhile isDig).length := List.length_pos_iff.mpr h0
      exact ⟨(List.dropWhile_suffix _).trans (digs_suf r), by omega⟩
theorem word_less {r r2 : List Nat} {v : D} (h : wordL r = .ok v r2) : Less r2 r ∧ D.flat 1 v = true := by
  have h1 := tw_dw_len isLow r
  unfold wordL at h
  have go : r.takeWhile isLow ≠ [] → Less (skipL (r.dropWhile isLow)) r := fun h0 => by
    have h3 : 0 < (r.takeWhile isLow).length := List.length_pos_iff.mpr h0
    exact Less.skip ⟨List.dropWhile_suffix _, by omega⟩
  split at h
  · rename_i e; cases h; exact ⟨go (by rw [e]; simp), rfl⟩
  · split at h
    · rename_i e; cases h; exact ⟨go (by rw [e]; simp), rfl⟩
    · split at h
      · rename_i e; cases h; exact ⟨go (by rw [e]; simp), rfl⟩
      · cases h
theorem leaf_less {r r2 : List Nat} {v : D} (h : leafL r = .ok v r2) : Less r2 r ∧ D.flat 1 v = true := by
  unfold leafL at h
  split at h
  · cases q : quoteL (r.drop 1) [] with
    | ok u r3 =>
      simp only [q] at h
      cases h
      have := quote_less _ _ _ (Nat.le_refl _) _ _ q
      exact ⟨Less.skip ⟨this.suf.trans (List.drop_suffix _ _), by have := this.lt; simp at this; omega⟩, rfl⟩
    | no p => simp only [q] at h; cases h
  · split at h
    · cases q : intL r with
      | ok u r3 =>
        simp only [q] at h
        cases h
        exact ⟨(int_less q).skip, rfl⟩
      | no p => simp only [q] at h; cases h
    · exact word_less h
theorem elems_less {d : Nat} {val : List Nat → Rd D} (hv : ∀ r v r2, r.length ≤ 16000000 → val r = .ok v r2 → Less r2 r ∧ D.flat d v = true) : ∀ (n : Nat) (acc : List D) (r : List Nat) (vs : List D) (r2 : List Nat),
    acc.length + r.length ≤ 16000000 → D.flats d acc = true → elemsL val n acc r = .ok vs r2 → Less r2 r ∧ D.flats d vs = true ∧ vs.length ≤ 16000000 := by
  intro n
  induction n with
  | zero => intro acc r vs r2 hl hf h; cases h
  | succ n ih =>
    intro acc r vs r2 hl hf h
    unfold elemsL at h
    split at h
    · rename_i e
      cases h
      refine ⟨⟨List.drop_suffix _ _, ?_⟩, hf, by omega⟩
      cases r with
      | nil => simp at e
      | cons c r => simp
    · cases q : val r with
      | no p => simp only [q] at h; cases h
      | ok v r3 =>
        simp only [q] at h
        obtain ⟨l1, f1⟩ := hv r v r3 (by omega) q
        have hf2 : D.flats d (acc ++ [v]) = true := flats_of fun x hx => by
          rcases List.mem_append.mp hx with hx | hx
          · exact flats_mem hf x hx
          · rw [List.mem_singleton.mp hx]; exact f1
        obtain ⟨l2, f2, f3⟩ := ih (acc ++ [v]) r3 vs r2 (by have := l1.lt; simp; omega) hf2 h
        exact ⟨⟨l2.suf.trans l1.suf, by have := l1.lt; have := l2.lt; omega⟩, f2, f3⟩
theorem value_less : ∀ (d : Nat) (r : List Nat) (v : D) (r2 : List Nat), r.length ≤ 16000000 → valueL d r = .ok v r2 → Less r2 r ∧ D.flat (d + 1) v = true := by
  intro d
  induction d with
  | zero =>
    intro r v r2 hl h
    unfold valueL at h
    split at h
    · cases h
    · exact leaf_less h
  | succ d ih =>
    intro r v r2 hl h
    unfold valueL at h
    split at h
    · cases q : elemsL (valueL d) (r.length + 1) [] (skipL (r.drop 1)) with
      | no p => simp only [q] at h; cases h
      | ok vs r3 =>
        simp only [q] at h
        cases h
        have s := (skip_suf (r.drop 1)).trans (List.drop_suffix 1 r)
        obtain ⟨l1, f1, f2⟩ := elems_less (d := d + 1) ih _ _ _ _ _ (by have := s.length_le; rw [List.length_nil]; omega) rfl q
        exact ⟨Less.skip ⟨l1.suf.trans s, by have := l1.lt; have := s.length_le; omega⟩, by simp [D.flat, f1, f2]⟩
    · obtain ⟨l1, f1⟩ := leaf_less h
      exact ⟨l1, flat_more (by omega) f1⟩
end K02

namespace K02
open MP PySem L2
/-! ### the program's reader reads so -/
def out (a : List Nat) (S : Sto) : Rd D → R D
  | .ok v r => .ok (.tup [v, pl a r]) S
  | .no r => .err (inv (pl a r)) S
theorem leave_out {n : Nat} {v : D} (hn : n ≤ 38) (h : D.flat n v = true) (a r : List Nat) (fr : List O) (S : Sto) : leave (.tup [v, pl a r]) (fr :: S) = .ok (.tup [v, pl a r]) S := by
  refine leave_flatD (n := (n + 1) + 1) fr S (by omega) ?_
  simp [D.flat, D.flats, pl, flat_more (Nat.le_succ n) h]
theorem leaveX_pl (a r : List Nat) (fr : List O) (S : Sto) : leaveX (inv (pl a r)) (fr :: S) = .err (inv (pl a r)) S := leaveX_inv _ _ _
theorem word_step {a : List Nat} (ha : a.length ≤ 16000000) {p : Nat} {r : List Nat} (h : At a p r) (self : Nat → Sem') (dp : Int) (S : Sto) (h1 : r.take 1 ≠ [40]) (h2 : r.take 1 ≠ [39]) (h3 : isNum r = false) :
    runF 7 (c_value_at self) [.str (tx a), .int p, .int dp] S = out a S (wordL r) := by
  have q := h.suf (List.dropWhile_suffix isLow)
  have L := fun y => walk_loop isLow a ([] :: S) (cTB (cChain gLeA gLeA (cK (.str (tx [97]))) (cSl (cV 0) (coS (cV 4)) (coS (cB gAddA (cV 4) (cK (.int 1))))) (cK (.str (tx [122]))))) (cAug 4 gIAddA (cK (.int 1)))
    (fun e => [some (.str (tx a)), some (.int p), some (.int dp), some y, some (.int e), none, none])
    (fun c r p h => chain1 _ 97 122 c _ _ fun S => by simp [ha, h.cut1])
    (fun p h => chain0 _ 97 122 _ _ fun S => by simp [ha, h.cut1])
    (fun p => by simp) r p h
  have bt : cutL a (some (p : Int)) (some ((a.length - (r.dropWhile isLow).length : Nat) : Int)) = r.takeWhile isLow :=
    At.between (r := r.dropWhile isLow) (by rw [← dw_split]; exact h) q
  have sk := skipped_ok ha q ([] :: S)
  have hm : ¬ (r.take 1 = [45]) := by
    cases r with
    | nil => simp
    | cons c r => simp [isNum] at h3; simp [h3.1]
  have hx : r.take 1 < [48] ∨ (¬ r.take 1 < [48] ∧ [57] < r.take 1) := by
    cases r with
    | nil => exact .inl (lt_nil _)
    | cons c r =>
      simp [isNum, isDig] at h3
      show [c] < [48] ∨ (¬ [c] < [48] ∧ [57] < [c])
      rw [lt1, lt1]
      omega
  have hp : D.int (p : Int) = pl a r := h.pl
  simp only [c_value_at, runF_eq, lits]
  unfold wordL
  generalize hw : r.takeWhile isLow = w at *
  rcases hx with hx | ⟨hx, hx2⟩
  · by_cases w1 : w = [110, 111, 110, 101]
    · simp [ha, h.cut1, h1, h2, hm, hx, L, bt, sk, forL_cons, out, w1]
    · by_cases w2 : w = [116, 114, 117, 101]
      · simp [ha, h.cut1, h1, h2, hm, hx, L, bt, sk, forL_cons, out, w1, w2]
      · by_cases w3 : w = [102, 97, 108, 115, 101]
        · simp [ha, h.cut1, h1, h2, hm, hx, L, bt, sk, forL_cons, out, w1, w2, w3]
        · simp [ha, h.cut1, h1, h2, hm, hx, L, bt, sk, forL_cons, out, w1, w2, w3]
          rw [hp]
          exact leaveX_pl _ _ _ _
  · by_cases w1 : w = [110, 111, 110, 101]
    · simp [ha, h.cut1, h1, h2, hm, hx, hx2, L, bt, sk, forL_cons, out, w1]
    · by_cases w2 : w = [116, 114, 117, 101]
      · simp [ha, h.cut1, h1, h2, hm, hx, hx2, L, bt, sk, forL_cons, out, w1, w2]
      · by_cases w3 : w = [102, 97, 108, 115, 101]
        · simp [ha, h.cut1, h1, h2, hm, hx, hx2, L, bt, sk, forL_cons, out, w1, w2, w3]
        · simp [ha, h.cut1, h1, h2, hm, hx, hx2, L, bt, sk, forL_cons, out, w1, w2, w3]
          rw [hp]
          exact leaveX_pl _ _ _ _
theorem leaf_step {a : List Nat} (ha : a.length ≤ 16000000) {p : Nat} {r : List Nat} (h : At a p r) (self : Nat → Sem') (dp : Int) (S : Sto) (h1 : r.take 1 ≠ [40]) :
    runF 7 (c_value_at self) [.str (tx a), .int p, .int dp] S = out a S (leafL r) := by
  unfold leafL
  by_cases h2 : r.take 1 = [39]
  · rw [if_pos h2]
    obtain ⟨c, r', rfl⟩ : ∃ c r', r = c :: r' := by cases r with | nil => simp at h2 | cons c r' => exact ⟨c, r', rfl⟩
    have q := quote_ok ha h.step ([] :: S)
    have q' : m_quote_at [.str (tx a), .int ((p : Int) + 1)] ([] :: S) = _ := q
    have e : List.drop 1 (c :: r') = r' := rfl
    rw [e]
    simp at h2
    simp only [c_value_at, runF_eq, lits]
    cases q2 : quoteL r' [] with
    | ok v r2 =>
      rw [q2] at q'
      simp [ha, h.cut1, h2, q', out]
    | no r2 =>
      rw [q2] at q'
      simp [ha, h.cut1, h2, q', out]
      exact leaveX_pl _ _ _ _
  · rw [if_neg h2]
    by_cases h3 : isNum r = true
    · rw [if_pos h3]
      obtain ⟨c, r', rfl⟩ : ∃ c r', r = c :: r' := by cases r with | nil => simp [isNum] at h3 | cons c r' => exact ⟨c, r', rfl⟩
      have hc : c = 45 ∨ isDig c = true := by simpa [isNum] using h3
      have q := integer_ok ha h hc ([] :: S)
      have hn : c ≠ 40 ∧ c ≠ 39 := ⟨fun e => h1 (by rw [e]; rfl), fun e => h2 (by rw [e]; rfl)⟩
      simp only [c_value_at, runF_eq, lits]
      by_cases c45 : c = 45
      · cases q2 : intL (c :: r') with
        | ok v r2 =>
          rw [q2] at q
          simp [ha, h.cut1, hn, c45, q, out]
        | no r2 =>
          rw [q2] at q
          simp [ha, h.cut1, hn, c45, q, out]
          exact leaveX_pl _ _ _ _
      · have hd : ¬ [c] < [48] ∧ ¬ [57] < [c] := by
          have := hc.resolve_left c45
          unfold isDig at this
          rw [lt1, lt1]
          simp at this
          omega
        cases q2 : intL (c :: r') with
        | ok v r2 =>
          rw [q2] at q
          simp [ha, h.cut1, hn, c45, q, out, hd.1, hd.2]
        | no r2 =>
          rw [q2] at q
          simp [ha, h.cut1, hn, c45, q, out, hd.1, hd.2]
          exact leaveX_pl _ _ _ _
    · rw [if_neg h3]
      exact word_step ha h self dp S h1 h2 (by simpa using h3)
/-! ### tuples -/
theorem look_top0 (r : List O) (S : Sto) (j : Nat) : look (r :: S) S.length j = r[j]? := look_top r S j
theorem put_top0 (r : List O) (S : Sto) (j : Nat) (o : O) : put (r :: S) S.length j o = r.set j o :: S := by
  rw [put, if_pos rfl]
theorem elems_loop {a : List Nat} (ha : a.length ≤ 16000000) (d : Nat) (hd : d + 1 ≤ 37) (self : Sem') (dp : Int) (S : Sto) (self_ok : ∀ (S : Sto) (r : List Nat) (p : Nat), At a p r → self [.str (tx a), .int p, .int (dp + 1)] S = out a S (valueL d r)) :
    ∀ (n : Nat) (r : List Nat) (p : Nat) (acc : List D) (y : Option D), r.length < n → At a p r → acc.length + r.length ≤ 16000000 → D.flats (d + 1) acc = true →
      match elemsL (valueL d) n acc r with
      | .ok vs r' => ∃ p' y', At a p' (41 :: r') ∧ cWhile (cTB (cB gNeA (cSl (cV 0) (coS (cV 1)) (coS (cB gAddA (cV 1) (cK (.int 1))))) (cK (.str (tx [41]))))) (cSeq (cAsg (tgT [(tgN 4), (tgN 1)]) (cCall self (caCons (cV 0) (caCons (cV 1) (caCons (cB gAddA (cV 2) (cK (.int 1))) caNil)))))
          (cDrop (cApp (cV 3) (cV 4)))) [some (.str (tx a)), some (.int p), some (.int dp), some (.ref S.length 0), y] ([.lst acc] :: S) = .nx [some (.str (tx a)), some (.int (p' : Int)), some (.int dp), some (.ref S.length 0), y'] ([.lst vs] :: S)
      | .no r' => ∃ ρ fr, cWhile (cTB (cB gNeA (cSl (cV 0) (coS (cV 1)) (coS (cB gAddA (cV 1) (cK (.int 1))))) (cK (.str (tx [41]))))) (cSeq (cAsg (tgT [(tgN 4), (tgN 1)]) (cCall self (caCons (cV 0) (caCons (cV 1) (caCons (cB gAddA (cV 2) (cK (.int 1))) caNil)))))
          (cDrop (cApp (cV 3) (cV 4)))) [some (.str (tx a)), some (.int p), some (.int dp), some (.ref S.length 0), y] ([.lst acc] :: S) = .err (inv (pl a r')) ρ (fr :: S) := by
  intro n
  induction n with
  | zero => intro r p acc y h; exact absurd h (Nat.not_lt_zero _)
  | succ n ih =>
    intro r p acc y hn h hl hf
    by_cases h41 : r.take 1 = [41]
    · rw [elemsL, if_pos h41]
      obtain ⟨c, r', rfl⟩ : ∃ c r', r = c :: r' := by cases r with | nil => simp at h41 | cons c r' => exact ⟨c, r', rfl⟩
      obtain rfl : c = 41 := by simpa using h41
      exact ⟨p, y, h, cWhile_end (by simp [ha, h.cut1])⟩
    · rw [elemsL, if_neg h41]
      have e := self_ok ([.lst acc] :: S) r p h
      cases q : valueL d r with
      | no r2 =>
        rw [q] at e
        exact ⟨_, [.lst acc], cWhile_err (S1 := [.lst acc] :: S) (by simp [ha, h.cut1, h41]) (by simp [e, out]; rfl)⟩
      | ok v r2 =>
        rw [q] at e
        obtain ⟨ls, fv⟩ := value_less d r v r2 (by have := h.len; omega) q
        have h2 := h.suf ls.suf
        have hf2 : D.flats (d + 1) (acc ++ [v]) = true := flats_of fun x hx => by
          rcases List.mem_append.mp hx with hx | hx
          · exact flats_mem hf x hx
          · rw [List.mem_singleton.mp hx]; exact fv
        have hle := les_flat S.length hf2
        have hlen : acc.length < 16000000 := by have := ls.lt; omega
        have R := ih r2 _ (acc ++ [v]) (some v) (by have := ls.lt; omega) h2 (by have := ls.lt; simp; omega) hf2
        simp only
        rw [cWhile_go (S1 := [.lst acc] :: S) (S2 := [.lst (acc ++ [v])] :: S) (ρ2 := [some (.str (tx a)), some (pl a r2), some (.int dp), some (.ref S.length 0), some v]) (by simp [ha, h.cut1, h41]) (by simp [e, out, look_top0, put_top0, hlen, hle])]
        exact R
end K02

namespace K02
open MP PySem L2
/-- ( at r: too deep -/
def tupleL : Nat → List Nat → Rd D
  | 0, r => .no r
  | d + 1, r => match elemsL (valueL d) (r.length + 1) [] (skipL (r.drop 1)) with
    | .ok vs r2 => .ok (.tup vs) (skipL r2)
    | .no p => .no p
theorem valueL_eq (d : Nat) (r : List Nat) : valueL d r = if r.take 1 = [40] then tupleL d r else leafL r := by
  cases d <;> rfl
theorem tupleL_cons (d c : Nat) (r : List Nat) : tupleL (d + 1) (c :: r) = match elemsL (valueL d) ((c :: r).length + 1) [] (skipL r) with
    | .ok vs r2 => .ok (.tup vs) (skipL r2)
    | .no p => .no p := rfl
theorem M1 (k : Nat) : M_value_at (k + 1) 1 = runF 5 (c_tuple_at (M_value_at k)) := by rw [M_value_at]
theorem M0 (k : Nat) : M_value_at (k + 1) 0 = runF 7 (c_value_at (M_value_at k)) := by rw [M_value_at]
theorem value_ok {a : List Nat} (ha : a.length ≤ 16000000) : ∀ (d : Nat), d ≤ 20 → ∀ (k : Nat), 2 * d + 2 ≤ k → ∀ (S : Sto) (r : List Nat) (p : Nat), At a p r →
    M_value_at k 0 [.str (tx a), .int p, .int (20 - (d : Int))] S = out a S (valueL d r) := by
  intro d
  induction d with
  | zero =>
    intro hd k hk S r p h
    obtain ⟨k, rfl⟩ : ∃ k', k = k' + 2 := ⟨k - 2, by omega⟩
    rw [valueL_eq]
    rw [M0]
    by_cases h40 : r.take 1 = [40]
    · rw [if_pos h40]
      have e : M_value_at (k + 1) 1 [.str (tx a), .int p, .int 20] ([] :: S) = .err (inv (pl a r)) ([] :: S) := by
        rw [M1]
        simp only [c_tuple_at, runF_eq, lits]
        simp
        rw [← h.pl]
        exact leaveX_inv _ _ _
      simp only [c_value_at, runF_eq, lits]
      simp [ha, h.cut1, h40, e, tupleL, out]
      exact leaveX_pl _ _ _ _
    · rw [if_neg h40]
      exact leaf_step ha h _ _ S h40
  | succ d ih =>
    intro hd k hk S r p h
    obtain ⟨k, rfl⟩ : ∃ k', k = k' + 2 := ⟨k - 2, by omega⟩
    rw [valueL_eq]
    rw [M0]
    by_cases h40 : r.take 1 = [40]
    · rw [if_pos h40]
      obtain ⟨c, r', rfl⟩ : ∃ c r', r = c :: r' := by cases r with | nil => simp at h40 | cons c r' => exact ⟨c, r', rfl⟩
      have dp1 : (20 - ((d + 1 : Nat) : Int)) + 1 = 20 - (d : Int) := by omega
      have sk := skipped_ok ha h.step ([.lst []] :: [] :: S)
      have sk' : m_skipped [.str (tx a), .int ((p : Int) + 1)] ([.lst []] :: [] :: S) = .ok (pl a (skipL r')) ([.lst []] :: [] :: S) := sk
      have hs := h.step.skip
      have L := elems_loop ha d (by omega) (M_value_at k 0) (20 - ((d + 1 : Nat) : Int)) ([] :: S) (fun S r p h => by rw [dp1]; exact ih (by omega) k (by omega) S r p h)
        ((c :: r').length + 1) (skipL r') _ [] none (by have := (skip_suf r').length_le; simp; omega) hs (by have := hs.len; simp; omega) rfl
      have ne : ¬ (20 - ((d + 1 : Nat) : Int) = 20) := by omega
      have e : M_value_at (k + 1) 1 [.str (tx a), .int p, .int (20 - ((d + 1 : Nat) : Int))] ([] :: S) = out a ([] :: S) (tupleL (d + 1) (c :: r')) := by
        rw [M1]
        simp only [c_tuple_at, runF_eq, lits]
        rw [tupleL_cons]
        generalize hdp : (20 - ((d + 1 : Nat) : Int)) = dp at *
        cases q : elemsL (valueL d) ((c :: r').length + 1) [] (skipL r') with
        | no r2 =>
          rw [q] at L
          obtain ⟨ρ, fr, L⟩ := L
          simp [newAt, D.les, ne, sk', pl] at L ⊢
          simp [L, out]
          exact leaveX_pl _ _ _ _
        | ok vs r2 =>
          rw [q] at L
          obtain ⟨p', y', hp', L⟩ := L
          simp [newAt, D.les, ne, sk', pl] at L ⊢
          have sk2 := skipped_ok ha hp'.step ([.lst vs] :: [] :: S)
          have sk3 : m_skipped [.str (tx a), .int ((p' : Int) + 1)] ([.lst vs] :: [] :: S) = .ok (pl a (skipL r2)) ([.lst vs] :: [] :: S) := sk2
          obtain ⟨_, fl, fn⟩ := elems_less (d := d + 1) (value_less d) _ _ _ _ _ (by have := hs.len; simp; omega) rfl q
          have lo := leave_out (n := d + 2) (v := .tup vs) (by omega) (by simp [D.flat, fl, fn]) a (skipL r2) [.lst vs] ([] :: S)
          have gt : gTuple [.ref (S.length + 1) 0] ([.lst vs] :: [] :: S) = .ok (.tup vs) ([.lst vs] :: [] :: S) := by
            show (match look ([.lst vs] :: [] :: S) ([] :: S).length 0 with
              | some (.lst xs) => R.ok (D.tup xs) ([.lst vs] :: [] :: S)
              | _ => .bad) = _
            rw [look_top0]; rfl
          simp [L, out, sk3, gt]
          exact lo
      simp only [c_value_at, runF_eq, lits]
      have hc : c = 40 := by simpa using h40
      cases q : tupleL (d + 1) (c :: r') with
      | ok v r2 =>
        rw [q] at e
        simp [ha, h.cut1, hc, e, out] at e ⊢
      | no r2 =>
        rw [q] at e
        simp [ha, h.cut1, hc, e, out] at e ⊢
        exact leaveX_pl _ _ _ _
    · rw [if_neg h40]
      exact leaf_step ha h _ _ S h40
end K02

namespace K02
open MP PySem L2
/-! ### the law's reader reads so too -/
theorem skip_idem (r : List Nat) : skipL (skipL r) = skipL r := by
  induction r with
  | nil => rfl
  | cons c r ih =>
    by_cases h : blank c = true
    · rw [skipL_cons, if_pos h]; exact ih
    · have e : skipL (c :: r) = c :: r := by rw [skipL_cons, if_neg h]
      rw [e, e]
theorem leaf_skip {r r2 : List Nat} {v : D} (h : leafL r = .ok v r2) : skipL r2 = r2 := by
  unfold leafL at h
  split at h
  · cases q : quoteL (r.drop 1) [] with
    | ok u r3 => simp only [q] at h; cases h; exact skip_idem _
    | no p => simp only [q] at h; cases h
  · split at h
    · cases q : intL r with
      | ok u r3 => simp only [q] at h; cases h; exact skip_idem _
      | no p => simp only [q] at h; cases h
    · unfold wordL at h
      split at h
      · cases h; exact skip_idem _
      · split at h
        · cases h; exact skip_idem _
        · split at h
          · cases h; exact skip_idem _
          · cases h
theorem value_skip {d : Nat} {r r2 : List Nat} {v : D} (h : valueL d r = .ok v r2) : skipL r2 = r2 := by
  rw [valueL_eq] at h
  split at h
  · cases d with
    | zero => cases h
    | succ d =>
      unfold tupleL at h
      cases q : elemsL (valueL d) (r.length + 1) [] (skipL (r.drop 1)) with
      | ok u r3 => simp only [q] at h; cases h; exact skip_idem _
      | no p => simp only [q] at h; cases h
  · exact leaf_skip h
theorem lquote_loop (a : List Nat) (ha : a.length ≤ 16000000) (S : Sto) (mk : Int → List Nat → Option D → Ro) (t : CT) (b : CS)
    (ht : ∀ (r : List Nat) (p : Nat) (acc : List Nat) (y : Option D), At a p r → t (mk p acc y) S = .ok (!decide (r.take 1 = [39])) S)
    (hb0 : ∀ (p : Nat) (acc : List Nat) (y : Option D), At a p [] → b (mk p acc y) S = .ret (.tup [.str (tx [110, 111]), pl a []]) S)
    (hb1 : ∀ (c : Nat) (r : List Nat) (p : Nat) (acc : List Nat) (y : Option D), acc.length < 16000000 → c ≠ 92 → At a p (c :: r) → ∃ y', b (mk p acc y) S = .nx (mk ((p : Int) + 1) (acc ++ [c]) y') S)
    (hb2 : ∀ (e d : Nat) (r : List Nat) (p : Nat) (acc : List Nat) (y : Option D), acc.length < 16000000 → esc e = some d → At a p (92 :: e :: r) → ∃ y', b (mk p acc y) S = .nx (mk ((p : Int) + 1 + 1) (acc ++ [d]) y') S)
    (hb3 : ∀ (r : List Nat) (p : Nat) (acc : List Nat) (y : Option D), (∀ e r', r = e :: r' → esc e = none) → At a p (92 :: r) → b (mk p acc y) S = .ret (.tup [.str (tx [110, 111]), pl a (92 :: r)]) S) :
    ∀ (n : Nat) (r : List Nat), r.length ≤ n → ∀ (p : Nat) (acc : List Nat) (y : Option D), At a p r → acc.length + r.length ≤ 16000000 →
      match quoteL r acc with
      | .ok v r' => ∃ p' y', At a p' (39 :: r') ∧ cWhile t b (mk p acc y) S = .nx (mk (p' : Int) v y') S
      | .no r' => cWhile t b (mk p acc y) S = .ret (.tup [.str (tx [110, 111]), pl a r']) S := by
  intro n
  induction n with
  | zero =>
    intro r hr p acc y h hl
    obtain rfl : r = [] := List.length_eq_zero_iff.mp (by omega)
    have e := hb0 p acc y h
    exact cWhile_ret (ht [] p _ _ h) e
  | succ n ih =>
    intro r hr p acc y h hl
    cases r with
    | nil =>
      have e := hb0 p acc y h
      exact cWhile_ret (ht [] p _ _ h) e
    | cons c r =>
      have ht1 := ht (c :: r) p acc y h
      rw [List.length_cons] at hl hr
      by_cases c39 : c = 39
      · subst c39
        rw [quoteL_39]
        exact ⟨p, y, h, cWhile_end (by rw [ht1]; simp)⟩
      · have ht2 : t (mk p acc y) S = .ok true S := by rw [ht1]; simp [c39]
        by_cases c92 : c = 92
        · subst c92
          cases r with
          | nil =>
            have e := hb3 [] p acc y (fun _ _ q => by cases q) h
            rw [quoteL_end]
            exact cWhile_ret ht2 e
          | cons e r =>
            cases he : esc e with
            | none =>
              have q := hb3 (e :: r) p acc y (fun _ _ q => by cases q; exact he) h
              rw [quoteL_esc]; simp only [he]
              exact cWhile_ret ht2 q
            | some d =>
              obtain ⟨y', q⟩ := hb2 e d r p acc y (by omega) he h
              rw [cWhile_go ht2 q]
              rw [quoteL_esc]; simp only [he]
              rw [List.length_cons] at hl hr
              exact ih r (by omega) (p + 1 + 1) (acc ++ [d]) y' h.step.step (by simp; omega)
        · obtain ⟨y', q⟩ := hb1 c r p acc y (by omega) c92 h
          rw [cWhile_go ht2 q]
          have e2 : quoteL (c :: r) acc = quoteL r (acc ++ [c]) := quoteL_oth c39 c92 r acc
          rw [e2]
          exact ih r (by omega) (p + 1) (acc ++ [c]) y' h.step (by simp; omega)

end K02

namespace K02
open MP PySem L2
def yes : D := .str (tx [121, 101, 115])
def nope : D := .str (tx [110, 111])
def lout (a : List Nat) (S : Sto) : Rd D → R D
  | .ok v r => .ok (.tup [.str (tx [121, 101, 115]), v, pl a r]) S
  | .no r => .ok (.tup [.str (tx [110, 111]), pl a r]) S
theorem lquote_step {a : List Nat} (ha : a.length ≤ 16000000) {p : Nat} {r : List Nat} (h : At a p (39 :: r)) (self : Sem') (dp : Int) (S : Sto) :
    runF 8 (c__law_read self) [.str (tx a), .int p, .int dp] S = lout a S (match quoteL r [] with
      | .ok v r2 => .ok (.str (tx v)) (skipL r2)
      | .no p => .no p) := by
  have L := lquote_loop a ha ([] :: S) (fun p acc y => [some (.str (tx a)), some (.int p), some (.int dp), some (.str (tx [39])), some (.str (tx acc)), none, y, none])
    (cTB (cB gNeA (cSl (cV 0) (coS (cV 1)) (coS (cB gAddA (cV 1) (cK (.int 1))))) (cK (.str (tx [39])))))
    (cSeq (cIfS (cTB (cB gGeA (cV 1) (cCall gLenA (caCons (cV 0) caNil)))) (cRet (cTup (caCons (cK (.str (tx [110, 111]))) (caCons (cV 1) caNil)))) cNext)
    (cSeq (cAsg (tgN 6) (cSl (cV 0) (coS (cV 1)) (coS (cB gAddA (cV 1) (cK (.int 2))))))
    (cSeq (cIfS (tAnd (cTB (cB gEqA (cB gItem (cV 0) (cV 1)) (cK (.str (tx [92]))))) (cTB (cB gNotMem (cV 6) (cTup (caCons (cK (.str (tx [92, 110]))) (caCons (cK (.str (tx [92, 116]))) (caCons (cK (.str (tx [92, 92]))) (caCons (cK (.str (tx [92, 39]))) caNil)))))))) (cRet (cTup (caCons (cK (.str (tx [110, 111]))) (caCons (cV 1) caNil)))) cNext)
    (cSeq (cAsg (tgN 4) (cB gAddA (cV 4) (cIf (cTB (cB gEqA (cB gItem (cV 0) (cV 1)) (cK (.str (tx [92]))))) (cB gItem (cDisp [((cK (.str (tx [92, 110]))), (cK (.str (tx [10])))), ((cK (.str (tx [92, 116]))), (cK (.str (tx [9])))), ((cK (.str (tx [92, 92]))), (cK (.str (tx [92])))), ((cK (.str (tx [92, 39]))), (cK (.str (tx [39]))))]) (cV 6)) (cB gItem (cV 0) (cV 1)))))
    (cAsg (tgN 1) (cB gAddA (cV 1) (cIf (cTB (cB gEqA (cB gItem (cV 0) (cV 1)) (cK (.str (tx [92]))))) (cK (.int 2)) (cK (.int 1)))))))))
    (fun r p acc y h => by simp [ha, h.cut1])
    (fun p acc y h => by
      have e := h.len
      have e2 : (a.length : Int) ≤ p := by simp at e; omega
      rw [← h.pl]; simp [ha, e2])
    (fun c r p acc y hl hc h => by
      have e := h.len
      have e2 : ¬ (a.length : Int) ≤ p := by simp at e; omega
      have : acc.length + 1 ≤ 16000000 := by omega
      simp [ha, h.ix, hc, this, e2])
    (fun e d r p acc y hl he h => by
      have e1 := h.len
      have e2 : ¬ (a.length : Int) ≤ p := by simp at e1; omega
      have : acc.length + 1 ≤ 16000000 := by omega
      have q : cutL a (some (p : Int)) (some ((p : Int) + 2)) = [92, e] := h.cut2
      unfold esc at he
      split at he
      · cases he; subst_vars; simp [ha, h.ix, q, this, e2, mkD, putKs, putA, hasK, getA]; omega
      · split at he
        · cases he; subst_vars; simp [ha, h.ix, q, this, e2, mkD, putKs, putA, hasK, getA]; omega
        · split at he
          · cases he; subst_vars; simp [ha, h.ix, q, this, e2, mkD, putKs, putA, hasK, getA]; omega
          · split at he
            · cases he; subst_vars; simp [ha, h.ix, q, this, e2, mkD, putKs, putA, hasK, getA]; omega
            · cases he)
    (fun r p acc y he h => by
      have e1 := h.len
      have e2 : ¬ (a.length : Int) ≤ p := by simp at e1; omega
      have q : cutL a (some (p : Int)) (some ((p : Int) + 2)) = 92 :: r.take 1 := h.cut2
      rw [← h.pl]
      cases r with
      | nil => simp [ha, h.ix, q, e2]
      | cons e r =>
        have := he e r rfl
        unfold esc at this
        split at this
        · cases this
        · split at this
          · cases this
          · split at this
            · cases this
            · split at this
              · cases this
              · rename_i n1 n2 n3 n4
                simp [ha, h.ix, q, e2, Ne.symm n1, Ne.symm n2, Ne.symm n3, Ne.symm n4])
    r.length r (Nat.le_refl _) (p + 1) [] none h.step (by have := h.len; simp at *; omega)
  simp only [c__law_read, runF_eq, lits]
  cases q : quoteL r [] with
  | ok v r' =>
    rw [q] at L
    obtain ⟨p', y', h', e⟩ := L
    have s' : m__law_skip [.str (tx a), .int ((p' : Int) + 1)] ([] :: S) = .ok (pl a (skipL r')) ([] :: S) := lskip_ok ha h'.step ([] :: S)
    have e' := e
    simp at e'
    simp [ha, h.cut1, e', s', lout]
  | no r' =>
    rw [q] at L
    simp at L
    simp [ha, h.cut1, L, lout]
end K02

namespace K02
open MP PySem L2
theorem mem_dig (c : Nat) : decide (c ∈ [48, 49, 50, 51, 52, 53, 54, 55, 56, 57]) = isDig c := by
  unfold isDig
  rw [← Bool.decide_and]
  congr 1
  simp only [List.mem_cons, List.not_mem_nil, or_false, eq_iff_iff]
  omega
theorem lnum_step {a : List Nat} (ha : a.length ≤ 16000000) {p c : Nat} {r : List Nat} (h : At a p (c :: r)) (hc : c = 45 ∨ isDig c = true) (self : Sem') (dp : Int) (S : Sto) :
    runF 8 (c__law_read self) [.str (tx a), .int p, .int dp] S = lout a S (match intL (c :: r) with
      | .ok v r2 => .ok (.int v) (skipL r2)
      | .no p => .no p) := by
  obtain ⟨s, hs, hs2⟩ : ∃ s : Nat, s = p + (if c = 45 then 1 else 0) ∧ At a s (digs (c :: r)) := by
    unfold digs
    rw [neg_cons]
    by_cases e : c = 45
    · simp only [e, if_true, decide_true]; exact ⟨_, rfl, by subst e; exact h.step⟩
    · simp only [e, if_false, decide_false]; exact ⟨_, rfl, h⟩
  have q := hs2.later _ (dw_split isDig (digs (c :: r)))
  have hsp := hs2.len
  have hsplit := congrArg List.length (dw_split isDig (digs (c :: r)))
  rw [List.length_append] at hsplit
  have L := walk_loop isDig a ([] :: S) (tAnd (cTB (cB gNeA (cSl (cV 0) (coS (cV 7)) (coS (cB gAddA (cV 7) (cK (.int 1))))) (cK (.str (tx []))))) (cTB (cB gMem (cB gItem (cV 0) (cV 7)) (cK (.str (tx [48, 49, 50, 51, 52, 53, 54, 55, 56, 57])))))) (cAsg (tgN 7) (cB gAddA (cV 7) (cK (.int 1))))
    (fun e => [some (.str (tx a)), some (.int p), some (.int dp), some (.str (tx [c])), none, none, none, some (.int e)])
    (fun c r p h => by rw [← mem_dig]; simp [ha, h.cut1, h.ix])
    (fun p h => by simp [ha, h.cut1])
    (fun p => by simp) (digs (c :: r)) s hs2
  have bt : cutL a (some (p : Int)) (some ((a.length - ((digs (c :: r)).dropWhile isDig).length : Nat) : Int)) = (if neg? (c :: r) then [45] else []) ++ (digs (c :: r)).takeWhile isDig := by
    refine At.between (r := (digs (c :: r)).dropWhile isDig) ?_ q
    have e : (if neg? (c :: r) then [45] else []) ++ (digs (c :: r)).takeWhile isDig ++ (digs (c :: r)).dropWhile isDig = c :: r := by
      rw [List.append_assoc, ← dw_split]
      unfold digs
      rw [neg_cons]
      by_cases e : c = 45 <;> simp [e]
    rw [e]; exact h
  have it := int_text (c :: r)
  have hne : c ≠ 45 → (digs (c :: r)).takeWhile isDig ≠ [] := fun n => by
    have := hc.resolve_left n
    unfold digs
    rw [neg_cons]
    simp [n, this]
  have hn40 : c ≠ 40 ∧ c ≠ 39 := by
    rcases hc with e | e
    · omega
    · unfold isDig at e; simp at e; omega
  generalize hT : (digs (c :: r)).takeWhile isDig = ds at *
  generalize hR : (digs (c :: r)).dropWhile isDig = rs at *
  have hq : (a.length - rs.length : Nat) = s + ds.length := by omega
  have sk := lskip_ok ha q ([] :: S)
  have d0i : ds = [] ↔ ds.length = 0 := List.length_eq_zero_iff.symm
  unfold intL
  rw [hT, hR]
  rw [hq] at L bt sk
  have hpl : ∀ x : Int, pl a (skipL rs) = pl a (skipL rs) := fun _ => rfl
  have pe : D.int ((s + ds.length : Nat) : Int) = pl a rs := by rw [← hq]; rfl
  have lo := fun v : Int => leave_out (n := 1) (v := .int v) (by decide) rfl a (skipL rs) [] S
  simp only [c__law_read, runF_eq, lits]
  by_cases c45 : c = 45
  · subst c45
    simp only [if_true] at hs
    subst hs
    by_cases d0 : ds = []
    · subst d0
      simp at L
      simp [ha, h.cut1, L, lout]
      exact hs2.pl1 ▸ rfl
    · have d0' : ¬ ((p : Int) + 1 + ds.length = p + 1) := by
        have := mt d0i.mpr d0
        omega
      have d2 : (p : Int) < p + 1 + ds.length := by omega
      by_cases d1 : 40 < ds.length
      · have d1' : (40 : Int) < (p : Int) + 1 + ds.length - p - 1 := by omega
        simp at L
        simp [ha, h.cut1, L, lout, d0, d0', d1, d1']
        exact h.pl
      · have d1' : ¬ (40 : Int) < (p : Int) + 1 + ds.length - p - 1 := by omega
        have it' := it d0 (by omega) ([] :: S)
        simp at L bt sk it'
        simp [ha, h.cut1, L, lout, d0, d0', d1, d1', d2, bt, sk, it']
  · simp only [c45, if_false] at hs
    subst hs
    have d0 := hne c45
    have d2 : (s : Int) < s + ds.length := by have := mt d0i.mpr d0; omega
    by_cases d1 : 40 < ds.length
    · have d1' : (40 : Int) < (s : Int) + ds.length - s := by omega
      simp at L
      simp [ha, h.cut1, L, lout, d0, d1, d1', c45, hn40]
      exact h.pl
    · have d1' : ¬ (40 : Int) < (s : Int) + ds.length - s := by omega
      have it' := it d0 (by omega) ([] :: S)
      simp at L bt sk it'
      simp [ha, h.cut1, L, lout, d0, d1, d1', d2, bt, sk, it', c45, hn40]
end K02

namespace K02
open MP PySem L2
theorem lword_step {a : List Nat} (ha : a.length ≤ 16000000) {p : Nat} {r : List Nat} (h : At a p r) (self : Sem') (dp : Int) (S : Sto) (h1 : r.take 1 ≠ [40]) (h2 : r.take 1 ≠ [39]) (h3 : isNum r = false) :
    runF 8 (c__law_read self) [.str (tx a), .int p, .int dp] S = lout a S (wordL r) := by
  have q := h.suf (List.dropWhile_suffix isLow)
  have hm : ¬ (r.take 1 = [45]) := by
    cases r with
    | nil => simp
    | cons c r => simp [isNum] at h3; simp [h3.1]
  have D0 : r.dropWhile isDig = r := by
    cases r with
    | nil => rfl
    | cons c r => simp [isNum] at h3; rw [List.dropWhile_cons, if_neg (by rw [h3.2]; exact Bool.false_ne_true)]
  have L0 := walk_loop isDig a ([] :: S) (tAnd (cTB (cB gNeA (cSl (cV 0) (coS (cV 7)) (coS (cB gAddA (cV 7) (cK (.int 1))))) (cK (.str (tx []))))) (cTB (cB gMem (cB gItem (cV 0) (cV 7)) (cK (.str (tx [48, 49, 50, 51, 52, 53, 54, 55, 56, 57])))))) (cAsg (tgN 7) (cB gAddA (cV 7) (cK (.int 1))))
    (fun e => [some (.str (tx a)), some (.int p), some (.int dp), some (.str (tx (r.take 1))), none, none, none, some (.int e)])
    (fun c r p h => by rw [← mem_dig]; simp [ha, h.cut1, h.ix])
    (fun p h => by simp [ha, h.cut1])
    (fun p => by simp) r p h
  rw [D0, ← h.pos] at L0
  have L := walk_loop isLow a ([] :: S) (tAnd (cTB (cB gNeA (cSl (cV 0) (coS (cV 7)) (coS (cB gAddA (cV 7) (cK (.int 1))))) (cK (.str (tx []))))) (cTB (cChain gLeA gLeA (cK (.str (tx [97]))) (cB gItem (cV 0) (cV 7)) (cK (.str (tx [122])))))) (cAsg (tgN 7) (cB gAddA (cV 7) (cK (.int 1))))
    (fun e => [some (.str (tx a)), some (.int p), some (.int dp), some (.str (tx (r.take 1))), none, none, none, some (.int e)])
    (fun c r p h => by
      have e0 : ∀ ρ : Ro, ρ[0]? = some (some (.str (tx a))) → ρ[7]? = some (some (.int (p : Int))) → cTB (cB gNeA (cSl (cV 0) (coS (cV 7)) (coS (cB gAddA (cV 7) (cK (.int 1))))) (cK (.str (tx [])))) ρ ([] :: S) = .ok true ([] :: S) := fun ρ z0 z7 => by
        simp [cV_eq, z0, z7, ha, h.cut1]
      rw [tAnd_eq, e0 _ rfl rfl, R.bind_ok, if_pos rfl, chain1 (cB gItem (cV 0) (cV 7)) 97 122 c _ _ fun S => by simp [ha, h.ix]]
      rfl)
    (fun p h => by simp [ha, h.cut1])
    (fun p => by simp) r p h
  have bt : cutL a (some (p : Int)) (some ((a.length - (r.dropWhile isLow).length : Nat) : Int)) = r.takeWhile isLow :=
    At.between (r := r.dropWhile isLow) (by rw [← dw_split]; exact h) q
  have sk := lskip_ok ha q ([] :: S)
  have hp : D.int (p : Int) = pl a r := h.pl
  simp only [c__law_read, runF_eq, lits]
  unfold wordL
  generalize hw : r.takeWhile isLow = w at *
  by_cases w1 : w = [110, 111, 110, 101]
  · simp [ha, h.cut1, h1, h2, hm, L0, L, bt, sk, lout, w1, mkD, putKs, putA, hasK, getA]
  · by_cases w2 : w = [116, 114, 117, 101]
    · simp [ha, h.cut1, h1, h2, hm, L0, L, bt, sk, lout, w1, w2, mkD, putKs, putA, hasK, getA]
    · by_cases w3 : w = [102, 97, 108, 115, 101]
      · simp [ha, h.cut1, h1, h2, hm, L0, L, bt, sk, lout, w1, w2, w3, mkD, putKs, putA, hasK, getA]
      · simp [ha, h.cut1, h1, h2, hm, L0, L, bt, sk, lout, w1, w2, w3, Ne.symm w1, Ne.symm w2, Ne.symm w3]; exact hp
theorem lleaf_step {a : List Nat} (ha : a.length ≤ 16000000) {p : Nat} {r : List Nat} (h : At a p r) (self : Sem') (dp : Int) (S : Sto) (h1 : r.take 1 ≠ [40]) :
    runF 8 (c__law_read self) [.str (tx a), .int p, .int dp] S = lout a S (leafL r) := by
  unfold leafL
  by_cases h2 : r.take 1 = [39]
  · rw [if_pos h2]
    obtain ⟨c, r', rfl⟩ : ∃ c r', r = c :: r' := by cases r with | nil => simp at h2 | cons c r' => exact ⟨c, r', rfl⟩
    obtain rfl : c = 39 := by simpa using h2
    exact lquote_step ha h self dp S
  · rw [if_neg h2]
    by_cases h3 : isNum r = true
    · rw [if_pos h3]
      obtain ⟨c, r', rfl⟩ : ∃ c r', r = c :: r' := by cases r with | nil => simp [isNum] at h3 | cons c r' => exact ⟨c, r', rfl⟩
      exact lnum_step ha h (by simpa [isNum] using h3) self dp S
    · rw [if_neg h3]
      exact lword_step ha h self dp S h1 h2 (by simpa using h3)
end K02

namespace K02
open MP PySem L2
theorem lelems_loop {a : List Nat} (ha : a.length ≤ 16000000) (d : Nat) (self : Sem') (dp : Int) (S : Sto) (self_ok : ∀ (S : Sto) (r : List Nat) (p : Nat), At a p r → self [.str (tx a), .int p, .int (dp + 1)] S = lout a S (valueL d r)) :
    ∀ (n : Nat) (r : List Nat) (p : Nat) (acc : List D) (y : Option D), r.length < n → At a p r → acc.length + r.length ≤ 16000000 →
      match elemsL (valueL d) n acc r with
      | .ok vs r' => ∃ p' y', At a p' (41 :: r') ∧ cWhile (cTB (cB gNeA (cSl (cV 0) (coS (cV 1)) (coS (cB gAddA (cV 1) (cK (.int 1))))) (cK (.str (tx [41]))))) (cSeq (cAsg (tgN 5) (cCall self (caCons (cV 0) (caCons (cV 1) (caCons (cB gAddA (cV 2) (cK (.int 1))) caNil)))))
    (cSeq (cIfS (cTB (cB gEqA (cB gItem (cV 5) (cK (.int 0))) (cK (.str (tx [110, 111]))))) (cRet (cV 5)) cNext)
    (cPar [4, 1] (caCons (cB gAddA (cV 4) (cTup (caCons (cB gItem (cV 5) (cK (.int 1))) caNil))) (caCons (cCall m__law_skip (caCons (cV 0) (caCons (cB gItem (cV 5) (cK (.int 2))) caNil))) caNil))))) [some (.str (tx a)), some (.int p), some (.int dp), some (.str (tx [40])), some (.tup acc), y, none, none] S = .nx [some (.str (tx a)), some (.int (p' : Int)), some (.int dp), some (.str (tx [40])), some (.tup vs), y', none, none] S
      | .no r' => cWhile (cTB (cB gNeA (cSl (cV 0) (coS (cV 1)) (coS (cB gAddA (cV 1) (cK (.int 1))))) (cK (.str (tx [41]))))) (cSeq (cAsg (tgN 5) (cCall self (caCons (cV 0) (caCons (cV 1) (caCons (cB gAddA (cV 2) (cK (.int 1))) caNil)))))
    (cSeq (cIfS (cTB (cB gEqA (cB gItem (cV 5) (cK (.int 0))) (cK (.str (tx [110, 111]))))) (cRet (cV 5)) cNext)
    (cPar [4, 1] (caCons (cB gAddA (cV 4) (cTup (caCons (cB gItem (cV 5) (cK (.int 1))) caNil))) (caCons (cCall m__law_skip (caCons (cV 0) (caCons (cB gItem (cV 5) (cK (.int 2))) caNil))) caNil))))) [some (.str (tx a)), some (.int p), some (.int dp), some (.str (tx [40])), some (.tup acc), y, none, none] S = .ret (.tup [.str (tx [110, 111]), pl a r']) S := by
  intro n
  induction n with
  | zero => intro r p acc y h; exact absurd h (Nat.not_lt_zero _)
  | succ n ih =>
    intro r p acc y hn h hl
    by_cases h41 : r.take 1 = [41]
    · rw [elemsL, if_pos h41]
      obtain ⟨c, r', rfl⟩ : ∃ c r', r = c :: r' := by cases r with | nil => simp at h41 | cons c r' => exact ⟨c, r', rfl⟩
      obtain rfl : c = 41 := by simpa using h41
      exact ⟨p, y, h, cWhile_end (by simp [ha, h.cut1])⟩
    · rw [elemsL, if_neg h41]
      have e := self_ok S r p h
      cases q : valueL d r with
      | no r2 =>
        rw [q] at e
        exact cWhile_ret (S1 := S) (by simp [ha, h.cut1, h41]) (by simp [e, lout])
      | ok v r2 =>
        rw [q] at e
        obtain ⟨ls, fv⟩ := value_less d r v r2 (by have := h.len; omega) q
        have h2 := h.suf ls.suf
        have hlen : acc.length + 1 ≤ 16000000 := by have := ls.lt; omega
        have sk := lskip_ok ha h2 S
        rw [value_skip q] at sk
        have sk' : m__law_skip [.str (tx a), pl a r2] S = .ok (pl a r2) S := sk
        have R := ih r2 _ (acc ++ [v]) (some (.tup [.str (tx [121, 101, 115]), v, pl a r2])) (by have := ls.lt; omega) h2 (by have := ls.lt; simp; omega)
        simp only
        rw [cWhile_go (S1 := S) (S2 := S) (ρ2 := [some (.str (tx a)), some (pl a r2), some (.int dp), some (.str (tx [40])), some (.tup (acc ++ [v])), some (.tup [.str (tx [121, 101, 115]), v, pl a r2]), none, none]) (by simp [ha, h.cut1, h41]) (by simp [e, lout, hlen, atI, ixN, sk'])]
        exact R
theorem lvalue_ok {a : List Nat} (ha : a.length ≤ 16000000) : ∀ (d : Nat), d ≤ 20 → ∀ (k : Nat), d + 1 ≤ k → ∀ (S : Sto) (r : List Nat) (p : Nat), At a p r →
    m__law_read k [.str (tx a), .int p, .int (20 - (d : Int))] S = lout a S (valueL d r) := by
  intro d
  induction d with
  | zero =>
    intro hd k hk S r p h
    obtain ⟨k, rfl⟩ : ∃ k', k = k' + 1 := ⟨k - 1, by omega⟩
    rw [valueL_eq]
    show runF 8 (c__law_read (m__law_read k)) _ _ = _
    by_cases h40 : r.take 1 = [40]
    · rw [if_pos h40]
      simp only [c__law_read, runF_eq, lits]
      simp [ha, h.cut1, h40, tupleL, lout]
      exact h.pl
    · rw [if_neg h40]
      exact lleaf_step ha h _ _ S h40
  | succ d ih =>
    intro hd k hk S r p h
    obtain ⟨k, rfl⟩ : ∃ k', k = k' + 1 := ⟨k - 1, by omega⟩
    rw [valueL_eq]
    show runF 8 (c__law_read (m__law_read k)) _ _ = _
    by_cases h40 : r.take 1 = [40]
    · rw [if_pos h40]
      obtain ⟨c, r', rfl⟩ : ∃ c r', r = c :: r' := by cases r with | nil => simp at h40 | cons c r' => exact ⟨c, r', rfl⟩
      obtain rfl : c = 40 := by simpa using h40
      have dp1 : (20 - ((d + 1 : Nat) : Int)) + 1 = 20 - (d : Int) := by omega
      have sk : m__law_skip [.str (tx a), .int ((p : Int) + 1)] ([] :: S) = .ok (pl a (skipL r')) ([] :: S) := lskip_ok ha h.step ([] :: S)
      have hs := h.step.skip
      have L := lelems_loop ha d (m__law_read k) (20 - ((d + 1 : Nat) : Int)) ([] :: S) (fun S r p h => by rw [dp1]; exact ih (by omega) k (by omega) S r p h)
        ((40 :: r').length + 1) (skipL r') _ [] none (by have := (skip_suf r').length_le; simp; omega) hs (by have := hs.len; simp; omega)
      have ne : ¬ (20 - ((d + 1 : Nat) : Int) = 20) := by omega
      rw [tupleL_cons]
      simp only [c__law_read, runF_eq, lits]
      generalize hdp : (20 - ((d + 1 : Nat) : Int)) = dp at *
      cases q : elemsL (valueL d) ((40 :: r').length + 1) [] (skipL r') with
      | no r2 =>
        rw [q] at L
        simp [ha, h.cut1, ne, sk, pl] at L ⊢
        simp [L, lout, pl]
      | ok vs r2 =>
        rw [q] at L
        obtain ⟨p', y', hp', L⟩ := L
        have sk2 : m__law_skip [.str (tx a), .int ((p' : Int) + 1)] ([] :: S) = .ok (pl a (skipL r2)) ([] :: S) := lskip_ok ha hp'.step ([] :: S)
        simp [ha, h.cut1, ne, sk, pl] at L ⊢
        simp [L, lout, sk2]
    · rw [if_neg h40]
      exact lleaf_step ha h _ _ S h40
end K02

namespace K02
open MP PySem L2
/-! ### a whole text -/
def told (a : List Nat) : D := match valueL 20 (skipL a) with
  | .ok v r => if r = [] then .tup [.str (tx [121, 101, 115]), v] else .tup [.str (tx [110, 111]), pl a r]
  | .no r => .tup [.str (tx [110, 111]), pl a r]
theorem told_flat (a : List Nat) (ha : a.length ≤ 16000000) : D.flat 23 (told a) = true := by
  unfold told
  cases q : valueL 20 (skipL a) with
  | no r => rfl
  | ok v r =>
    have f := (value_less 20 _ v r (by have := (skip_suf a).length_le; omega) q).2
    simp only
    split
    · have := flat_more (m := 22) (by omega) f
      simp [D.flat, D.flats, this]
    · rfl
theorem rest_lt {a r : List Nat} (h : r <:+ a) : ((a.length - r.length : Nat) : Int) < a.length ↔ r ≠ [] := by
  have := h.length_le
  rw [← List.length_pos_iff]
  omega
theorem lt_pl {a r : List Nat} (h : r <:+ a) (S : Sto) : gLtA (pl a r) (.int (a.length : Int)) S = .ok (.bl (!decide (r = []))) S := by
  have := rest_lt h
  show gLt (.int ((a.length - r.length : Nat) : Int)) (.int (a.length : Int)) S = _
  rw [gLt_i]
  congr 2
  by_cases hr : r = []
  · simp [hr]
  · rw [decide_eq_true (this.mpr hr)]; simp [hr]
theorem whole_ok {a : List Nat} (ha : a.length ≤ 16000000) (S : Sto) : m__law_whole [.str (tx a)] S = .ok (told a) S := by
  have h0 := At.zero a
  have sk : m__law_skip [.str (tx a), .int 0] ([] :: S) = .ok (pl a (skipL a)) ([] :: S) := lskip_ok ha h0 ([] :: S)
  have hs := h0.skip
  have e := lvalue_ok ha 20 (by decide) 26 (by decide) ([] :: S) (skipL a) _ hs
  have e' : m__law_read 26 [.str (tx a), pl a (skipL a), .int 0] ([] :: S) = lout a ([] :: S) (valueL 20 (skipL a)) := e
  have tf := told_flat a ha
  simp only [m__law_whole, c__law_whole, runF_eq, lits]
  unfold told at tf ⊢
  cases q : valueL 20 (skipL a) with
  | no r =>
    rw [q] at e'
    simp [sk, e', lout, atI, ixN]
  | ok v r =>
    rw [q] at e' tf
    have su := (value_less 20 _ v r (by have := (skip_suf a).length_le; omega) q).1.suf.trans (skip_suf a)
    have lt := lt_pl su
    by_cases hr : r = []
    · subst hr
      simp [sk, e', lout, atI, ixN, ha, lt]
    · simp [sk, e', lout, atI, ixN, ha, lt, hr]
theorem read_ok {a : List Nat} (ha : a.length ≤ 16000000) (S : Sto) : m_read_shown [.str (tx a)] S = (match valueL 20 (skipL a) with
      | .ok v r => if r = [] then .ok v S else .err (inv (pl a r)) S
      | .no r => .err (inv (pl a r)) S) := by
  have h0 := At.zero a
  have sk : m_skipped [.str (tx a), .int 0] ([] :: S) = .ok (pl a (skipL a)) ([] :: S) := skipped_ok ha h0 ([] :: S)
  have hs := h0.skip
  have e' : m_value_at 50 [.str (tx a), pl a (skipL a), .int 0] ([] :: S) = out a ([] :: S) (valueL 20 (skipL a)) := value_ok ha 20 (by decide) 50 (by decide) ([] :: S) (skipL a) _ hs
  simp only [m_read_shown, c_read_shown, runF_eq, lits]
  cases q : valueL 20 (skipL a) with
  | no r =>
    rw [q] at e'
    simp [sk, e', out]
    exact leaveX_pl _ _ _ _
  | ok v r =>
    rw [q] at e'
    have su := (value_less 20 _ v r (by have := (skip_suf a).length_le; omega) q).1.suf.trans (skip_suf a)
    have lt := lt_pl su
    have lx := leaveX_pl a r [] S
    by_cases hr : r = []
    · subst hr
      simp [sk, e', out, ha, lt]
    · simp [sk, e', out, ha, lt, hr]
      exact lx
theorem asked_ok {a : List Nat} (ha : a.length ≤ 16000000) (S : Sto) : m__law_asked [.str (tx a)] S = .ok (told a) S := by
  have e := read_ok ha ([] :: S)
  have h1 : (Str.ofString "InvalidText") ∈ errs := by decide +kernel
  have h2 : subE (Str.ofString "InvalidText") (Str.ofString "InvalidText") = true := by decide +kernel
  have h3 : ∀ x y : D, List.lookup (Str.ofString "place") [(Str.ofString "name", x), (Str.ofString "place", y)] = some y := fun x y => by
    have e : ((Str.ofString "place" : Str) == Str.ofString "name") = false := by decide +kernel
    rw [List.lookup_cons, e]; simp
  simp only [m__law_asked, c__law_asked, runF_eq, lits]
  unfold told
  cases q : valueL 20 (skipL a) with
  | no r =>
    rw [q] at e
    simp only [inv] at e
    simp [e, hdL, h1, h2, h3, cXf]
  | ok v r =>
    rw [q] at e
    by_cases hr : r = []
    · simp [hr] at e
      simp [e, hr]
    · simp only [inv, hr, if_false] at e
      simp [e, hdL, h1, h2, h3, hr, cXf]
end K02

namespace K02
open MP PySem L2
/-! ### values shown -/
def escS (c : Nat) : List Nat := if c = 10 then [92, 110] else if c = 9 then [92, 116] else if c = 92 then [92, 92] else if c = 39 then [92, 39] else [c]
theorem escS_len (c : Nat) : 1 ≤ (escS c).length ∧ (escS c).length ≤ 2 := by
  unfold escS
  repeat' split
  all_goals simp
def quoteT (x : List Nat) : List Nat := 39 :: (x.flatMap escS ++ [39])
def sels : C := (cGet2 (cDisp [((cK (.str (tx [10]))), (cK (.str (tx [92, 110])))), ((cK (.str (tx [9]))), (cK (.str (tx [92, 116])))), ((cK (.str (tx [92]))), (cK (.str (tx [92, 92])))), ((cK (.str (tx [39]))), (cK (.str (tx [92, 39]))))]) (cV 2) (cV 2))
theorem sel_ok (i c : Nat) (ρ : Ro) (S : Sto) (h : ρ[i]? = some (some (.str (tx [c])))) : (cGet2 (cDisp [((cK (.str (tx [10]))), (cK (.str (tx [92, 110])))), ((cK (.str (tx [9]))), (cK (.str (tx [92, 116])))), ((cK (.str (tx [92]))), (cK (.str (tx [92, 92])))), ((cK (.str (tx [39]))), (cK (.str (tx [92, 39]))))]) (cV i) (cV i)) ρ S = .ok (.str (tx (escS c))) S := by
  unfold escS
  by_cases h1 : c = 10
  · simp [cV_eq, h, mkD, putKs, putA, hasK, getA, h1]
  · by_cases h2 : c = 9
    · simp [cV_eq, h, mkD, putKs, putA, hasK, getA, h1, h2]
    · by_cases h3 : c = 92
      · simp [cV_eq, h, mkD, putKs, putA, hasK, getA, h1, h2, h3]
      · by_cases h4 : c = 39
        · simp [cV_eq, h, mkD, putKs, putA, hasK, getA, h1, h2, h3, h4]
        · simp [cV_eq, h, mkD, putKs, putA, hasK, getA, h1, h2, h3, h4, Ne.symm h1, Ne.symm h2, Ne.symm h3, Ne.symm h4]
theorem quoted_loop (t : D) (S : Sto) (b : CS) (hb : ∀ (c : Nat) (acc : List Nat), acc.length ≤ 15000000 → b [some t, some (.str (tx acc)), some (.str (tx [c]))] S = .nx [some t, some (.str (tx (acc ++ escS c))), some (.str (tx [c]))] S) :
    ∀ (x : List Nat) (acc : List Nat) (y : Option D), acc.length + 2 * x.length ≤ 15000000 → ∃ y', forL (tgN 2) b (x.map fun c => D.str (tx [c])) [some t, some (.str (tx acc)), y] S = .nx [some t, some (.str (tx (acc ++ x.flatMap escS))), y'] S
  | [], acc, y, _ => ⟨y, by simp⟩
  | c :: x, acc, y, h => by
    rw [List.length_cons] at h
    have e := escS_len c
    obtain ⟨y', q⟩ := quoted_loop t S b hb x (acc ++ escS c) (some (.str (tx [c]))) (by simp; omega)
    refine ⟨y', ?_⟩
    rw [List.map_cons, forL_cons]
    have hb' := hb c acc (by omega)
    simp [tgR, hb'] at q ⊢
    rw [q]
theorem flat_len (x : List Nat) : (x.flatMap escS).length ≤ 2 * x.length := by
  induction x with
  | nil => simp
  | cons c x ih => have := escS_len c; rw [List.flatMap_cons, List.length_append, List.length_cons]; omega
theorem quoted_ok {x : List Nat} (h : x.length ≤ 1000000) (S : Sto) : m_quoted [.str (tx x)] S = .ok (.str (tx (quoteT x))) S := by
  obtain ⟨y', L⟩ := quoted_loop (.str (tx x)) ([] :: S) (cAug 1 gIAddA (cGet2 (cDisp [((cK (.str (tx [10]))), (cK (.str (tx [92, 110])))), ((cK (.str (tx [9]))), (cK (.str (tx [92, 116])))), ((cK (.str (tx [92]))), (cK (.str (tx [92, 92])))), ((cK (.str (tx [39]))), (cK (.str (tx [92, 39]))))]) (cV 2) (cV 2)))
    (fun c acc hl => by
      have e := sel_ok 2 c [some (.str (tx x)), some (.str (tx acc)), some (.str (tx [c]))] ([] :: S) rfl
      have z := escS_len c
      have z2 : acc.length + (escS c).length ≤ 16000000 := by omega
      rw [cAug_eq, e]
      simp [z2]) x [] none (by simp; omega)
  have z := flat_len x
  have z1 : (x.flatMap escS).length + 1 ≤ 16000000 := by omega
  have z2 : 1 + ((x.flatMap escS).length + 1) ≤ 16000000 := by omega
  have z3 : 1 + (x.flatMap escS).length ≤ 16000000 := by omega
  have z4 : (x.flatMap escS).length + 1 + 1 ≤ 16000000 := by omega
  simp only [m_quoted, c_quoted, runF_eq, lits, quoteT]
  generalize x.flatMap escS = u at *
  simp at L
  simp [L, z1, z2, z3, z4]
theorem strsO_tx : ∀ ys : List (List Nat), strsO (ys.map fun y => D.str (tx y)) = some (ys.map tx)
  | [] => rfl
  | y :: ys => by rw [List.map_cons, strsO_cons, strsO_tx ys]; rfl
theorem gJoin_tx (g : List Nat) (ys : List (List Nat)) (S : Sto) (h : (ys.map List.length).sum + ys.length * g.length ≤ 16777216) : gJoin (.str (tx g)) [.lst (ys.map fun y => D.str (tx y))] S = .ok (.str (tx (TL.joinL g ys))) S := by
  have e : ((ys.map tx).map (·.length)).sum + (ys.map tx).length * (tx g).length ≤ 16777216 := by
    rw [tx_len, List.length_map]
    have : (ys.map tx).map (·.length) = ys.map List.length := SX.lens ys
    rw [this]; exact h
  have e1 : (D.lst (ys.map fun y => D.str (tx y))).items S = some (ys.map fun y => D.str (tx y)) := rfl
  unfold gJoin
  simp only [e1, strsO_tx]
  rw [if_pos e, join_tx]
theorem joinL_nil : ∀ ys : List (List Nat), TL.joinL [] ys = ys.flatten
  | [] => rfl
  | [y] => by simp [TL.joinL]
  | y :: z :: ys => by
    have := joinL_nil (z :: ys)
    rw [TL.joinL, this]; simp
theorem lquoted_ok {x : List Nat} (h : x.length ≤ 1000000) (S : Sto) : m__law_quoted [.str (tx x)] S = .ok (.str (tx (quoteT x))) S := by
  have L := lc_map 1 (cGet2 (cDisp [((cK (.str (tx [10]))), (cK (.str (tx [92, 110])))), ((cK (.str (tx [9]))), (cK (.str (tx [92, 116])))), ((cK (.str (tx [92]))), (cK (.str (tx [92, 92])))), ((cK (.str (tx [39]))), (cK (.str (tx [92, 39]))))]) (cV 1) (cV 1)) [some (.str (tx x)), none] ([] :: S)
    (fun d => match d with | .str y => .str (tx (escS (y.cps.getD 0 0))) | d => d) (x.map fun c => D.str (tx [c])) (fun d hd => by
      obtain ⟨c, _, rfl⟩ := List.mem_map.mp hd
      exact sel_ok 1 c _ _ rfl)
  rw [List.map_map] at L
  have L2 : lcL (tgN 1) ctYes (cGet2 (cDisp [((cK (.str (tx [10]))), (cK (.str (tx [92, 110])))), ((cK (.str (tx [9]))), (cK (.str (tx [92, 116])))), ((cK (.str (tx [92]))), (cK (.str (tx [92, 92])))), ((cK (.str (tx [39]))), (cK (.str (tx [92, 39]))))]) (cV 1) (cV 1)) [some (.str (tx x)), none] (x.map fun c => D.str (tx [c])) ([] :: S) = .ok (x.map fun c => D.str (tx (escS c))) ([] :: S) := L
  have J := gJoin_tx [] (x.map escS) ([] :: S) (by
    have := flat_len x
    rw [List.length_flatMap] at this
    simp at this ⊢
    have e : (x.map (List.length ∘ escS)) = x.map fun a => (escS a).length := rfl
    rw [e]; omega)
  rw [joinL_nil, List.map_map] at J
  have J2 : gJoin (.str (tx [])) [.lst (x.map fun c => D.str (tx (escS c)))] ([] :: S) = .ok (.str (tx (x.flatMap escS))) ([] :: S) := by
    rw [List.flatMap_def]; exact J
  have z := flat_len x
  have z1 : (x.flatMap escS).length + 1 ≤ 16000000 := by omega
  have z2 : 1 + ((x.flatMap escS).length + 1) ≤ 16000000 := by omega
  have z3 : 1 + (x.flatMap escS).length ≤ 16000000 := by omega
  have z4 : (x.flatMap escS).length + 1 + 1 ≤ 16000000 := by omega
  have z5 : x.length ≤ 16000000 := by omega
  simp only [m__law_quoted, c__law_quoted, runF_eq, lits, quoteT]
  generalize x.flatMap escS = u at *
  try simp at L2
  try simp at J2
  simp [L2, J2, z1, z2, z3, z4, z5]
end K02

namespace K02
open MP PySem L2
/-! ### values, their text -/
mutual
/-- a value that can be shown: depth below n, numbers not too large -/
def vv : Nat → D → Bool
  | 0, _ => false
  | n + 1, d => match d with
    | .non => true
    | .bl _ => true
    | .int i => decide (i.natAbs < 10 ^ 60)
    | .str _ => true
    | .tup xs => vvs n xs
    | _ => false
def vvs : Nat → List D → Bool
  | _, [] => true
  | n, x :: xs => vv n x && vvs n xs
end
theorem vvs_mem : ∀ {n : Nat} {xs : List D}, vvs n xs = true → ∀ d ∈ xs, vv n d = true
  | n, x :: xs, h, d, hd => by
    simp only [vvs, Bool.and_eq_true] at h
    rcases List.mem_cons.mp hd with e | e
    · subst e; exact h.1
    · exact vvs_mem h.2 d e
def intT (i : Int) : List Nat := (Str.ofString (toString i)).cps.toList
theorem intT_eq (i : Int) : Str.ofString (toString i) = tx (intT i) := rfl
def shw : Nat → List Nat → D → List Nat
  | 0, _, _ => []
  | n + 1, g, d => match d with
    | .tup xs => 40 :: (g.drop 1 ++ TL.joinL g (xs.map (shw n g)) ++ g.drop 1 ++ [41])
    | .str x => quoteT x.cps.toList
    | .non => [110, 111, 110, 101]
    | .bl b => if b then [116, 114, 117, 101] else [102, 97, 108, 115, 101]
    | .int i => intT i
    | _ => []
theorem joinL_len (g : List Nat) : ∀ ys : List (List Nat), (ys.map List.length).sum + ys.length * g.length ≤ (TL.joinL g ys).length + g.length
  | [] => by simp
  | [y] => by simp [TL.joinL]
  | y :: z :: ys => by
    have := joinL_len g (z :: ys)
    rw [TL.joinL]
    simp only [List.length_append, List.map_cons, List.sum_cons, List.length_cons, Nat.add_mul, Nat.one_mul] at this ⊢
    omega
theorem joinL_mem (g : List Nat) : ∀ (ys : List (List Nat)), ∀ y ∈ ys, y.length ≤ (TL.joinL g ys).length
  | [], y, h => by cases h
  | [y], z, h => by rw [List.mem_singleton.mp h]; exact Nat.le_refl _
  | y :: z :: ys, w, h => by
    have ih := joinL_mem g (z :: ys)
    rw [TL.joinL]
    simp only [List.length_append]
    rcases List.mem_cons.mp h with e | e
    · subst e; omega
    · have := ih w e; omega
theorem log_ok {i : Int} (h : i.natAbs < 10 ^ 60) : i.natAbs.log2 < 1920 := by
  by_cases h0 : i.natAbs = 0
  · rw [h0]; decide
  · rw [Nat.log2_lt h0]
    exact Nat.lt_trans h (by decide +kernel)
theorem quoteT_len (l : List Nat) : l.length + 2 ≤ (quoteT l).length := by
  unfold quoteT
  have : l.length ≤ (l.flatMap escS).length := by
    induction l with
    | nil => simp
    | cons c l ih => have := escS_len c; rw [List.flatMap_cons, List.length_append, List.length_cons]; omega
  simp only [List.length_cons, List.length_append, List.length_nil]
  omega
theorem show_ok : ∀ (n k : Nat) (v : D) (S : Sto), n ≤ k → vv n v = true → (shw n [32] v).length ≤ 1000000 → m_show k [v] S = .ok (.str (tx (shw n [32] v))) S := by
  intro n
  induction n with
  | zero => intro k v S _ h; simp [vv] at h
  | succ n ih =>
    intro k v S hk h hl
    obtain ⟨k, rfl⟩ : ∃ k', k = k' + 1 := ⟨k - 1, by omega⟩
    show runF 2 (c_show (m_show k)) [v] S = _
    simp only [c_show, runF_eq, lits]
    cases v with
    | non => simp [shw]
    | bl b => cases b <;> simp [shw]
    | int i =>
      have := log_ok (i := i) (by simpa [vv] using h)
      simp [shw, this]
      rfl
    | str x =>
      have ex : x = tx x.cps.toList := (SX.S_tl x).symm
      have hx : x.cps.toList.length ≤ 1000000 := by
        have := quoteT_len x.cps.toList
        have e : shw (n + 1) [32] (.str x) = quoteT x.cps.toList := rfl
        rw [e] at hl; omega
      have q := quoted_ok hx ([] :: S)
      rw [← ex] at q
      simp [q, shw]
    | tup xs =>
      have hm : ∀ d ∈ xs, vv n d = true := vvs_mem (by simpa [vv] using h)
      have e : shw (n + 1) [32] (.tup xs) = 40 :: (TL.joinL [32] (xs.map (shw n [32])) ++ [41]) := by simp [shw]
      rw [e] at hl ⊢
      simp only [List.length_cons, List.length_append, List.length_nil] at hl
      have jl := joinL_len [32] (xs.map (shw n [32]))
      simp only [List.length_map, List.length_cons, List.length_nil] at jl
      have L := lc_map 1 (cCall (m_show k) (caCons (cV 1) caNil)) [some (.tup xs), none] ([] :: S) (fun d => D.str (tx (shw n [32] d))) xs fun d hd => by
        have z := joinL_mem [32] (xs.map (shw n [32])) (shw n [32] d) (List.mem_map_of_mem hd)
        have := ih k d ([] :: S) (by omega) (hm d hd) (by omega)
        simp [this]
      have J := gJoin_tx [32] (xs.map (shw n [32])) ([] :: S) (by simp only [List.length_map, List.length_cons, List.length_nil]; omega)
      rw [List.map_map] at J
      have J2 : gJoin (.str (tx [32])) [.lst (xs.map fun d => D.str (tx (shw n [32] d)))] ([] :: S) = .ok (.str (tx (TL.joinL [32] (xs.map (shw n [32]))))) ([] :: S) := J
      have xl : xs.length ≤ 16000000 := by omega
      generalize TL.joinL [32] (xs.map (shw n [32])) = u at *
      have z1 : u.length + 1 ≤ 16000000 := by omega
      have z2 : 1 + u.length ≤ 16000000 := by omega
      have z3 : u.length + 1 + 1 ≤ 16000000 := by omega
      have z4 : 1 + (u.length + 1) ≤ 16000000 := by omega
      simp [L, J2, xl, z1, z2, z3, z4]
    | ty t => simp [vv] at h
    | lst xs => simp [vv] at h
    | rol xs => simp [vv] at h
    | box b xs => simp [vv] at h
    | ref a b => simp [vv] at h
end K02

namespace K02
open MP PySem L2
theorem lshow_ok (g : List Nat) (hg : g.length ≤ 100) (hg1 : 1 ≤ g.length) : ∀ (n k : Nat) (v : D) (S : Sto), n ≤ k → vv n v = true → (shw n g v).length ≤ 1000000 → m__law_show k [v, .str (tx g)] S = .ok (.str (tx (shw n g v))) S := by
  intro n
  induction n with
  | zero => intro k v S _ h; simp [vv] at h
  | succ n ih =>
    intro k v S hk h hl
    obtain ⟨k, rfl⟩ : ∃ k', k = k' + 1 := ⟨k - 1, by omega⟩
    show runF 3 (c__law_show (m__law_show k)) [v, .str (tx g)] S = _
    simp only [c__law_show, runF_eq, lits]
    cases v with
    | non => simp [shw]
    | bl b => cases b <;> simp [shw]
    | int i =>
      have := log_ok (i := i) (by simpa [vv] using h)
      simp [shw, this]
      rfl
    | str x =>
      have ex : x = tx x.cps.toList := (SX.S_tl x).symm
      have hx : x.cps.toList.length ≤ 1000000 := by
        have := quoteT_len x.cps.toList
        have e : shw (n + 1) g (.str x) = quoteT x.cps.toList := rfl
        rw [e] at hl; omega
      have q := lquoted_ok hx ([] :: S)
      rw [← ex] at q
      simp [q, shw]
    | tup xs =>
      have hm : ∀ d ∈ xs, vv n d = true := vvs_mem (by simpa [vv] using h)
      have e : shw (n + 1) g (.tup xs) = 40 :: (g.drop 1 ++ TL.joinL g (xs.map (shw n g)) ++ g.drop 1 ++ [41]) := rfl
      rw [e] at hl ⊢
      simp only [List.length_cons, List.length_append, List.length_nil] at hl
      have jl := joinL_len g (xs.map (shw n g))
      simp only [List.length_map] at jl
      have L := lc_map 2 (cCall (m__law_show k) (caCons (cV 2) (caCons (cV 1) caNil))) [some (.tup xs), some (.str (tx g)), none] ([] :: S) (fun d => D.str (tx (shw n g d))) xs fun d hd => by
        have z := joinL_mem g (xs.map (shw n g)) (shw n g d) (List.mem_map_of_mem hd)
        have := ih k d ([] :: S) (by omega) (hm d hd) (by omega)
        simp [this]
      have J := gJoin_tx g (xs.map (shw n g)) ([] :: S) (by simp only [List.length_map]; omega)
      rw [List.map_map] at J
      have J2 : gJoin (.str (tx g)) [.lst (xs.map fun d => D.str (tx (shw n g d)))] ([] :: S) = .ok (.str (tx (TL.joinL g (xs.map (shw n g))))) ([] :: S) := J
      have xl : xs.length ≤ 16000000 := by
        have := Nat.le_mul_of_pos_right xs.length (show 0 < g.length by omega)
        omega
      generalize TL.joinL g (xs.map (shw n g)) = u at *
      have d1 : (g.drop 1).length ≤ 100 := by rw [List.length_drop]; omega
      generalize hd : g.drop 1 = w at *
      have cu : cutL g (some 1) none = w := by rw [cutL_from1]; exact hd
      have z0 : g.length ≤ 16000000 := by omega
      have z1 : 1 + w.length ≤ 16000000 := by omega
      have z2 : 1 + (w.length + u.length) ≤ 16000000 := by omega
      have z2' : w.length + 1 + u.length ≤ 16000000 := by omega
      have z3 : w.length + u.length + 1 + w.length ≤ 16000000 := by omega
      have z4 : w.length + u.length + w.length + 1 + 1 ≤ 16000000 := by omega
      have z5 : w.length + (u.length + w.length) + 1 + 1 ≤ 16000000 := by omega
      simp [L, J2, xl, cu, z0, z1, z2, z2', z3, z4, z5]
    | ty t => simp [vv] at h
    | lst xs => simp [vv] at h
    | rol xs => simp [vv] at h
    | box b xs => simp [vv] at h
    | ref a b => simp [vv] at h
end K02

namespace K02
open MP PySem L2
/-! ### what was shown is read back -/
theorem quote_back (t : List Nat) : ∀ (x acc : List Nat), quoteL (x.flatMap escS ++ 39 :: t) acc = .ok (acc ++ x) t
  | [], acc => by rw [List.flatMap_nil, List.nil_append, quoteL_39, List.append_nil]
  | c :: x, acc => by
    rw [List.flatMap_cons, List.append_assoc]
    have ih := quote_back t x (acc ++ [c])
    have e : acc ++ c :: x = acc ++ [c] ++ x := by simp
    rw [e, ← ih]
    unfold escS
    by_cases h1 : c = 10
    · subst h1; rw [if_pos rfl]; exact (quoteL_esc 110 _ acc).trans rfl
    · rw [if_neg h1]
      by_cases h2 : c = 9
      · subst h2; rw [if_pos rfl]; exact (quoteL_esc 116 _ acc).trans rfl
      · rw [if_neg h2]
        by_cases h3 : c = 92
        · subst h3; rw [if_pos rfl]; exact (quoteL_esc 92 _ acc).trans rfl
        · rw [if_neg h3]
          by_cases h4 : c = 39
          · subst h4; rw [if_pos rfl]; exact (quoteL_esc 39 _ acc).trans rfl
          · rw [if_neg h4]; exact quoteL_oth h4 h3 _ acc
/-- what may follow a value -/
def stop : List Nat → Bool
  | [] => true
  | c :: _ => decide (c = 32 ∨ c = 10 ∨ c = 41)
theorem str_back (x t : List Nat) : leafL (quoteT x ++ t) = .ok (.str (tx x)) (skipL t) := by
  unfold leafL quoteT
  rw [if_pos (by simp)]
  have e : List.drop 1 (39 :: (List.flatMap escS x ++ [39]) ++ t) = List.flatMap escS x ++ 39 :: t := by simp
  rw [e, quote_back]
  simp
/-- may the reader take it: d levels are left -/
def goodV : Nat → Nat → D → Bool
  | 0, _, _ => false
  | n + 1, d, v => match v with
    | .tup xs => decide (d ≠ 0) && xs.all (goodV n (d - 1))
    | .int i => decide (i.natAbs < 10 ^ 40)
    | _ => true
theorem tw_app {q : Nat → Bool} {u t : List Nat} (hu : ∀ c ∈ u, q c = true) (ht : ∀ c r, t = c :: r → q c = false) : (u ++ t).takeWhile q = u ∧ (u ++ t).dropWhile q = t := by
  induction u with
  | nil =>
    cases t with
    | nil => exact ⟨rfl, rfl⟩
    | cons c r => simp [ht c r rfl]
  | cons c u ih =>
    have := ih fun d hd => hu d (List.mem_cons_of_mem _ hd)
    simp [hu c List.mem_cons_self, this.1, this.2]
theorem stop_dig {t : List Nat} (h : stop t = true) : ∀ c r, t = c :: r → isDig c = false := fun c r e => by
  subst e
  simp only [stop, decide_eq_true_eq] at h
  unfold isDig
  rcases h with rfl | rfl | rfl <;> rfl
theorem num_dig (n : Nat) : ∀ c ∈ TL.numL n, isDig c = true := fun c hc => by
  have := TL.numL_digits n c hc
  unfold isDig
  simp; omega
theorem num_head (n : Nat) : ∃ c r, TL.numL n = c :: r ∧ isDig c = true := by
  cases h : TL.numL n with
  | nil => exact absurd h (TL.numL_ne n)
  | cons c r => exact ⟨c, r, rfl, num_dig n c (by rw [h]; exact List.mem_cons_self)⟩
theorem intT_nn (n : Nat) : intT (n : Int) = TL.numL n := TL.tl_num n
theorem intT_neg (n : Nat) : intT (Int.negSucc n) = 45 :: TL.numL (n + 1) := by
  unfold intT TL.numL
  rw [PySem.Str.ofString_eq_toList]
  show (("-" ++ Nat.repr (n + 1)).toList.map Char.toNat) = _
  rw [String.toList_append, List.map_append, Nat.toList_repr]
  rfl
theorem num_len (n : Nat) : 40 < (TL.numL n).length ↔ ¬ n < 10 ^ 40 := by
  constructor
  · intro h h2
    have := TL.numL_len (by decide : 0 < 40) h2
    omega
  · intro h
    have := PyProof.Rows.digits10_ge (k := 40) (n := n) (by omega)
    unfold TL.numL
    rw [List.length_map]
    omega
theorem int_back (i : Int) {t : List Nat} (ht : stop t = true) : intL (intT i ++ t) = if i.natAbs < 10 ^ 40 then .ok i t else .no (intT i ++ t) := by
  cases i with
  | ofNat n =>
    obtain ⟨c, r, e, hc⟩ := num_head n
    have hn : neg? (TL.numL n ++ t) = false := by
      rw [e, List.cons_append, neg_cons]
      unfold isDig at hc
      simp at hc ⊢
      omega
    have hd : digs (TL.numL n ++ t) = TL.numL n ++ t := by unfold digs; rw [hn]; rfl
    obtain ⟨h1, h2⟩ := tw_app (num_dig n) (stop_dig ht)
    show intL (intT (n : Int) ++ t) = _
    rw [intT_nn]
    unfold intL numV
    rw [hd, h1, h2, hn, if_neg (TL.numL_ne n)]
    have := num_len n
    by_cases hl : n < 10 ^ 40
    · rw [if_neg (fun z => this.mp z hl)]
      show _ = if (n : Int).natAbs < 10 ^ 40 then _ else _
      rw [Int.natAbs_natCast, if_pos hl, TL.numL_val]
      rfl
    · rw [if_pos (this.mpr hl)]
      show _ = if (n : Int).natAbs < 10 ^ 40 then _ else _
      rw [Int.natAbs_natCast, if_neg hl, ← intT_nn]
      rfl
  | negSucc m =>
    have hn : neg? (45 :: TL.numL (m + 1) ++ t) = true := rfl
    have hd : digs (45 :: TL.numL (m + 1) ++ t) = TL.numL (m + 1) ++ t := by unfold digs; rw [hn]; rfl
    obtain ⟨h1, h2⟩ := tw_app (num_dig (m + 1)) (stop_dig ht)
    rw [intT_neg]
    unfold intL numV
    rw [hd, h1, h2, hn, if_neg (TL.numL_ne (m + 1))]
    have := num_len (m + 1)
    by_cases hl : m + 1 < 10 ^ 40
    · rw [if_neg (fun z => this.mp z hl)]
      rw [show (Int.negSucc m).natAbs = m + 1 from rfl, if_pos hl, TL.numL_val]
      rfl
    · rw [if_pos (this.mpr hl)]
      rw [show (Int.negSucc m).natAbs = m + 1 from rfl, if_neg hl]
end K02

namespace K02
open MP PySem L2
theorem intT_head (i : Int) : ∃ c r, intT i = c :: r ∧ (c = 45 ∨ isDig c = true) := by
  cases i with
  | ofNat n =>
    obtain ⟨c, r, e, hc⟩ := num_head n
    exact ⟨c, r, (intT_nn n).trans e, .inr hc⟩
  | negSucc m => exact ⟨45, _, intT_neg m, .inl rfl⟩
theorem leaf_int (i : Int) {t : List Nat} (ht : stop t = true) : leafL (intT i ++ t) = if i.natAbs < 10 ^ 40 then .ok (.int i) (skipL t) else .no (intT i ++ t) := by
  obtain ⟨c, r, e, hc⟩ := intT_head i
  have h39 : ¬ (intT i ++ t).take 1 = [39] := by
    rw [e]
    simp
    rcases hc with rfl | hc
    · decide
    · intro z; subst z; simp [isDig] at hc
  have hn : isNum (intT i ++ t) = true := by
    rw [e]
    simp [isNum]
    exact hc
  unfold leafL
  rw [if_neg h39, if_pos hn, int_back i ht]
  by_cases h : i.natAbs < 10 ^ 40
  · rw [if_pos h, if_pos h]
  · rw [if_neg h, if_neg h]
theorem stop_low {t : List Nat} (h : stop t = true) : ∀ c r, t = c :: r → isLow c = false := fun c r e => by
  subst e
  simp only [stop, decide_eq_true_eq] at h
  unfold isLow
  rcases h with rfl | rfl | rfl <;> rfl
theorem leaf_word (w : List Nat) (v : D) {t : List Nat} (ht : stop t = true) (hw : (w = [110, 111, 110, 101] ∧ v = .non) ∨ (w = [116, 114, 117, 101] ∧ v = .bl true) ∨ (w = [102, 97, 108, 115, 101] ∧ v = .bl false)) : leafL (w ++ t) = .ok v (skipL t) := by
  rcases hw with ⟨rfl, rfl⟩ | ⟨rfl, rfl⟩ | ⟨rfl, rfl⟩
  all_goals
    unfold leafL
    rw [if_neg (by simp), if_neg (by simp [isNum, isDig])]
    unfold wordL
  · obtain ⟨h1, h2⟩ := tw_app (q := isLow) (u := [110, 111, 110, 101]) (by decide) (stop_low ht)
    rw [h1, h2]; rfl
  · obtain ⟨h1, h2⟩ := tw_app (q := isLow) (u := [116, 114, 117, 101]) (by decide) (stop_low ht)
    rw [h1, h2]; rfl
  · obtain ⟨h1, h2⟩ := tw_app (q := isLow) (u := [102, 97, 108, 115, 101]) (by decide) (stop_low ht)
    rw [h1, h2]; rfl
end K02

namespace K02
open MP PySem L2
theorem skip_blank (w r : List Nat) (h : ∀ c ∈ w, blank c = true) : skipL (w ++ r) = skipL r := by
  induction w with
  | nil => rfl
  | cons c w ih =>
    rw [List.cons_append, skipL_cons, if_pos (h c List.mem_cons_self)]
    exact ih fun d hd => h d (List.mem_cons_of_mem _ hd)
/-- a value's text begins with no blank and no ) -/
theorem shw_head (g : List Nat) : ∀ (n : Nat) (v : D), vv n v = true → ∃ c r, shw n g v = c :: r ∧ blank c = false ∧ c ≠ 41
  | 0, v, h => by simp [vv] at h
  | n + 1, v, h => by
    cases v with
    | non => exact ⟨110, _, rfl, rfl, by decide⟩
    | bl b => cases b <;> exact ⟨_, _, rfl, rfl, by decide⟩
    | int i =>
      obtain ⟨c, r, e, hc⟩ := intT_head i
      refine ⟨c, r, e, ?_, ?_⟩
      · rcases hc with rfl | hc
        · rfl
        · unfold blank; unfold isDig at hc; simp at hc ⊢; omega
      · rcases hc with rfl | hc
        · decide
        · unfold isDig at hc; simp at hc; omega
    | str x => exact ⟨39, _, rfl, rfl, by decide⟩
    | tup xs => exact ⟨40, _, rfl, rfl, by decide⟩
    | ty t => simp [vv] at h
    | lst xs => simp [vv] at h
    | rol xs => simp [vv] at h
    | box b xs => simp [vv] at h
    | ref a b => simp [vv] at h
theorem skip_shw (g : List Nat) {n : Nat} {v : D} (h : vv n v = true) (t : List Nat) : skipL (shw n g v ++ t) = shw n g v ++ t := by
  obtain ⟨c, r, e, hb, _⟩ := shw_head g n v h
  rw [e, List.cons_append, skipL_cons, if_neg (by rw [hb]; exact Bool.false_ne_true)]
def restL (n : Nat) (g t : List Nat) (xs : List D) : List Nat := TL.joinL g (xs.map (shw n g)) ++ (g.drop 1 ++ 41 :: t)
theorem restL_cons (n : Nat) (g t : List Nat) (hg : ∀ c ∈ g, blank c = true) (hne : g ≠ []) (x : D) (xs : List D) : ∃ tl, restL n g t (x :: xs) = shw n g x ++ tl ∧ stop tl = true ∧ skipL tl = skipL (restL n g t xs) := by
  have hd : ∀ c ∈ g.drop 1, blank c = true := fun c h => hg c (List.mem_of_mem_drop h)
  cases xs with
  | nil =>
    refine ⟨g.drop 1 ++ 41 :: t, rfl, ?_, ?_⟩
    · cases e : g.drop 1 with
      | nil => rfl
      | cons c r =>
        have := hd c (by rw [e]; exact List.mem_cons_self)
        unfold blank at this
        simp [stop] at this ⊢
        omega
    · rfl
  | cons z xs =>
    refine ⟨g ++ restL n g t (z :: xs), ?_, ?_, skip_blank g _ hg⟩
    · unfold restL
      rw [List.map_cons, List.map_cons, TL.joinL, List.append_assoc, List.append_assoc]
    · obtain ⟨c, r, e⟩ := List.exists_cons_of_ne_nil hne
      have := hg c (by rw [e]; exact List.mem_cons_self)
      rw [e]
      unfold blank at this
      simp [stop] at this ⊢
      omega
theorem elems_back (n d : Nat) (g t : List Nat) (hg : ∀ c ∈ g, blank c = true) (hne : g ≠ [])
    (HB : ∀ (v : D) (t : List Nat), vv n v = true → stop t = true → (goodV n d v = true → valueL d (shw n g v ++ t) = .ok v (skipL t)) ∧ (goodV n d v = false → ∃ p, valueL d (shw n g v ++ t) = .no p)) :
    ∀ (xs : List D) (N : Nat) (acc : List D), vvs n xs = true → xs.length < N →
      (xs.all (goodV n d) = true → elemsL (valueL d) N acc (skipL (restL n g t xs)) = .ok (acc ++ xs) t) ∧ (xs.all (goodV n d) = false → ∃ p, elemsL (valueL d) N acc (skipL (restL n g t xs)) = .no p)
  | [], N, acc, _, hN => by
    obtain ⟨N, rfl⟩ : ∃ k, N = k + 1 := ⟨N - 1, by simp at hN; omega⟩
    have e : skipL (restL n g t []) = 41 :: t := by
      show skipL (g.drop 1 ++ 41 :: t) = _
      rw [skip_blank _ _ fun c h => hg c (List.mem_of_mem_drop h)]
      rfl
    rw [e]
    refine ⟨fun _ => ?_, fun h => by simp at h⟩
    rw [elemsL, if_pos (by rfl), List.append_nil]
    rfl
  | x :: xs, N, acc, hv, hN => by
    obtain ⟨N, rfl⟩ : ∃ k, N = k + 1 := ⟨N - 1, by simp at hN; omega⟩
    simp only [vvs, Bool.and_eq_true] at hv
    obtain ⟨tl, e1, e2, e3⟩ := restL_cons n g t hg hne x xs
    obtain ⟨c, r, eh, _, h41⟩ := shw_head g n x hv.1
    have n41 : ¬ (shw n g x ++ tl).take 1 = [41] := by rw [eh]; simp [h41]
    rw [e1, skip_shw g hv.1, elemsL, if_neg n41]
    obtain ⟨b1, b2⟩ := HB x tl hv.1 e2
    obtain ⟨i1, i2⟩ := elems_back n d g t hg hne HB xs N (acc ++ [x]) hv.2 (by simp at hN; omega)
    cases hx : goodV n d x with
    | false =>
      obtain ⟨p, q⟩ := b2 hx
      rw [q]
      refine ⟨fun h => by simp [hx] at h, fun _ => ⟨p, rfl⟩⟩
    | true =>
      rw [b1 hx, e3]
      refine ⟨fun h => ?_, fun h => ?_⟩
      · have := i1 (by simpa [hx] using h)
        simp only [this, List.append_assoc, List.singleton_append]
      · exact i2 (by simpa [hx] using h)
end K02

namespace K02
open MP PySem L2
theorem value_back (g : List Nat) (hg : ∀ c ∈ g, blank c = true) (hne : g ≠ []) : ∀ (n d : Nat) (v : D) (t : List Nat), vv n v = true → stop t = true →
    (goodV n d v = true → valueL d (shw n g v ++ t) = .ok v (skipL t)) ∧ (goodV n d v = false → ∃ p, valueL d (shw n g v ++ t) = .no p)
  | 0, d, v, t, h, _ => by simp [vv] at h
  | n + 1, d, v, t, h, ht => by
    rw [valueL_eq]
    cases v with
    | non => exact ⟨fun _ => by rw [if_neg (by simp [shw])]; exact leaf_word _ _ ht (.inl ⟨rfl, rfl⟩), fun z => by simp [goodV] at z⟩
    | bl b =>
      cases b
      · exact ⟨fun _ => by rw [if_neg (by simp [shw])]; exact leaf_word _ _ ht (.inr (.inr ⟨rfl, rfl⟩)), fun z => by simp [goodV] at z⟩
      · exact ⟨fun _ => by rw [if_neg (by simp [shw])]; exact leaf_word _ _ ht (.inr (.inl ⟨rfl, rfl⟩)), fun z => by simp [goodV] at z⟩
    | int i =>
      obtain ⟨c, r, e, hc⟩ := intT_head i
      have h40 : ¬ (shw (n + 1) g (.int i) ++ t).take 1 = [40] := by
        show ¬ (intT i ++ t).take 1 = [40]
        rw [e]
        simp
        rcases hc with rfl | hc
        · decide
        · intro z; subst z; simp [isDig] at hc
      rw [if_neg h40]
      have L := leaf_int i ht
      refine ⟨fun z => ?_, fun z => ?_⟩
      · have z' : i.natAbs < 10 ^ 40 := of_decide_eq_true z
        rw [if_pos z'] at L; exact L
      · have z' : ¬ i.natAbs < 10 ^ 40 := of_decide_eq_false z
        rw [if_neg z'] at L; exact ⟨_, L⟩
    | str x =>
      refine ⟨fun _ => ?_, fun z => by simp [goodV] at z⟩
      have e : shw (n + 1) g (.str x) = quoteT x.cps.toList := rfl
      rw [e, if_neg (by simp [quoteT]), str_back]
    | tup xs =>
      have e : shw (n + 1) g (.tup xs) ++ t = 40 :: (g.drop 1 ++ restL n g t xs) := by
        show 40 :: (g.drop 1 ++ TL.joinL g (xs.map (shw n g)) ++ g.drop 1 ++ [41]) ++ t = _
        simp [restL]
      rw [e, if_pos (by rfl)]
      cases d with
      | zero => exact ⟨fun z => by simp [goodV] at z, fun _ => ⟨_, rfl⟩⟩
      | succ d =>
        rw [tupleL_cons, skip_blank _ _ fun c h => hg c (List.mem_of_mem_drop h)]
        have hv : vvs n xs = true := by simpa [vv] using h
        have jl := joinL_len g (xs.map (shw n g))
        rw [List.length_map] at jl
        have gp : 0 < g.length := List.length_pos_iff.mpr hne
        have m := Nat.le_mul_of_pos_right xs.length gp
        obtain ⟨b1, b2⟩ := elems_back n d g t hg hne (fun v t => value_back g hg hne n d v t) xs ((40 :: (g.drop 1 ++ restL n g t xs)).length + 1) [] hv (by
          simp only [restL, List.length_cons, List.length_append, List.length_drop]; omega)
        refine ⟨fun z => ?_, fun z => ?_⟩
        · rw [b1 (by simpa [goodV] using z)]; rfl
        · obtain ⟨p, q⟩ := b2 (by simpa [goodV] using z)
          rw [q]; exact ⟨p, rfl⟩
    | ty t => simp [vv] at h
    | lst xs => simp [vv] at h
    | rol xs => simp [vv] at h
    | box b xs => simp [vv] at h
    | ref a b => simp [vv] at h
end K02

namespace K02
open MP PySem L2
theorem toBls_all (f : D → Bool) (xs : List D) : toBls (xs.map fun d => D.bl (f d)) = some (xs.map f) := by
  have e : (xs.map fun d => D.bl (f d)) = (xs.map f).map D.bl := by simp
  rw [e]; exact toBls_map _
mutual
/-- short enough -/
def wee : Nat → D → Bool
  | 0, _ => false
  | n + 1, d => match d with
    | .tup xs => decide (xs.length ≤ 1000) && wees n xs
    | _ => true
def wees : Nat → List D → Bool
  | _, [] => true
  | n, x :: xs => wee n x && wees n xs
end
theorem wees_mem : ∀ {n : Nat} {xs : List D}, wees n xs = true → ∀ d ∈ xs, wee n d = true
  | n, x :: xs, h, d, hd => by
    simp only [wees, Bool.and_eq_true] at h
    rcases List.mem_cons.mp hd with e | e
    · subst e; exact h.1
    · exact wees_mem h.2 d e
theorem shownAt_ok : ∀ (n k d : Nat) (v : D) (S : Sto), n ≤ k → d ≤ 20 → vv n v = true → wee n v = true → m_is_shown_at k [v, .int (20 - (d : Int))] S = .ok (.bl (goodV n d v)) S := by
  intro n
  induction n with
  | zero => intro k d v S _ _ h; simp [vv] at h
  | succ n ih =>
    intro k d v S hk hd h hw
    obtain ⟨k, rfl⟩ : ∃ k', k = k' + 1 := ⟨k - 1, by omega⟩
    show runF 3 (c_is_shown_at (m_is_shown_at k)) _ S = _
    simp only [c_is_shown_at, runF_eq]
    cases v with
    | non => simp [goodV]
    | bl b => cases b <;> simp [goodV]
    | int i =>
      by_cases h1 : (-10000000000000000000000000000000000000000 : Int) < i
      · by_cases h2 : i < 10000000000000000000000000000000000000000
        · have : i.natAbs < 10000000000000000000000000000000000000000 := by omega
          simp [goodV, h1, h2, this]
        · have : ¬ i.natAbs < 10000000000000000000000000000000000000000 := by omega
          simp [goodV, h1, h2, this]
      · have : ¬ i.natAbs < 10000000000000000000000000000000000000000 := by omega
        simp [goodV, h1, this]
    | str x => simp [goodV]
    | tup xs =>
      have hm := vvs_mem (show vvs n xs = true by simpa [vv] using h)
      have hw' : xs.length ≤ 1000 ∧ wees n xs = true := by simpa [wee] using hw
      have hwm := wees_mem hw'.2
      cases d with
      | zero => simp [goodV]
      | succ d =>
        have L := lc_map 2 (cCall (m_is_shown_at k) (caCons (cV 2) (caCons (cB gAddA (cV 1) (cK (.int 1))) caNil))) [some (.tup xs), some (.int (20 - ((d + 1 : Nat) : Int))), none] ([] :: S) (fun x => .bl (goodV n d x)) xs fun x hx => by
          have := ih k d x ([] :: S) (by omega) (by omega) (hm x hx) (hwm x hx)
          have e : (20 - ((d : Int) + 1)) + 1 = 20 - (d : Int) := by omega
          simp [e, this]
        have A := gAll_l (S := [] :: S) (xs := xs.map fun x => D.bl (goodV n d x)) (toBls_all (goodV n d) xs)
        have lt : (20 - ((d + 1 : Nat) : Int)) < 20 := by omega
        have xl : xs.length ≤ 16000000 := by omega
        generalize 20 - ((d + 1 : Nat) : Int) = z at *
        simp [L, A, lt, goodV, xl]
    | ty t => simp [vv] at h
    | lst xs => simp [vv] at h
    | rol xs => simp [vv] at h
    | box b xs => simp [vv] at h
    | ref a b => simp [vv] at h
end K02

namespace K02
open MP PySem L2
theorem skip_all (w : List Nat) (h : ∀ c ∈ w, blank c = true) : skipL w = [] := by
  have := skip_blank w [] h
  rw [List.append_nil] at this
  rw [this]; rfl
/-- a shown value, blanks around, is told -/
theorem told_shw (g : List Nat) (hg : ∀ c ∈ g, blank c = true) (hne : g ≠ []) {n : Nat} {v : D} (w w' : List Nat) (hw : ∀ c ∈ w, blank c = true) (hw' : ∀ c ∈ w', blank c = true) (hv : vv n v = true) :
    (goodV n 20 v = true → told (w ++ (shw n g v ++ w')) = .tup [.str (tx [121, 101, 115]), v]) ∧ (goodV n 20 v = false → ∃ p, told (w ++ (shw n g v ++ w')) = .tup [.str (tx [110, 111]), p]) := by
  have st : stop w' = true := by
    cases w' with
    | nil => rfl
    | cons c r =>
      have := hw' c List.mem_cons_self
      unfold blank at this
      simp [stop] at this ⊢
      omega
  obtain ⟨b1, b2⟩ := value_back g hg hne n 20 v w' hv st
  have e : skipL (w ++ (shw n g v ++ w')) = shw n g v ++ w' := by rw [skip_blank w _ hw, skip_shw g hv]
  unfold told
  rw [e]
  refine ⟨fun h => ?_, fun h => ?_⟩
  · rw [b1 h, skip_all w' hw']; rfl
  · obtain ⟨p, q⟩ := b2 h
    rw [q]; exact ⟨_, rfl⟩
end K02

namespace K02
open MP PySem L2
/-! ### drawn values -/
def leafD (v : D) : Prop := v = .non ∨ (∃ b, v = .bl b) ∨ (∃ i : Int, v = .int i ∧ -1000 ≤ i ∧ i < 1000) ∨ v = .str (tx []) ∨ v = .str (tx [105, 116, 39, 115, 32, 92, 32, 126, 10]) ∨ v = .str (tx [97, 9, 98])
def drawnD : Nat → D → Prop
  | 0, v => leafD v
  | n + 1, v => leafD v ∨ ∃ xs, v = .tup xs ∧ xs.length ≤ 3 ∧ ∀ x ∈ xs, drawnD n x
theorem leaf_drawn {n : Nat} {v : D} (h : leafD v) : drawnD n v := by
  cases n with
  | zero => exact h
  | succ n => exact .inl h
def lenB : Nat → Nat
  | 0 => 20
  | n + 1 => 30 + 3 * lenB n
theorem joinL_le (g : List Nat) (B : Nat) : ∀ ys : List (List Nat), (∀ y ∈ ys, y.length ≤ B) → (TL.joinL g ys).length ≤ ys.length * (B + g.length)
  | [], _ => by simp [TL.joinL]
  | [y], h => by have := h y List.mem_cons_self; simp [TL.joinL]; omega
  | y :: z :: ys, h => by
    have ih := joinL_le g B (z :: ys) fun y hy => h y (List.mem_cons_of_mem _ hy)
    have := h y List.mem_cons_self
    rw [TL.joinL]
    simp only [List.length_append, List.length_cons, Nat.add_mul, Nat.one_mul] at ih ⊢
    omega
theorem vvs_of {n : Nat} : ∀ {xs : List D}, (∀ d ∈ xs, vv n d = true) → vvs n xs = true
  | [], _ => rfl
  | x :: xs, h => by
    simp only [vvs, Bool.and_eq_true]
    exact ⟨h x List.mem_cons_self, vvs_of fun d hd => h d (List.mem_cons_of_mem _ hd)⟩
theorem wees_of {n : Nat} : ∀ {xs : List D}, (∀ d ∈ xs, wee n d = true) → wees n xs = true
  | [], _ => rfl
  | x :: xs, h => by
    simp only [wees, Bool.and_eq_true]
    exact ⟨h x List.mem_cons_self, wees_of fun d hd => h d (List.mem_cons_of_mem _ hd)⟩
structure Good (n d : Nat) (v : D) : Prop where
  vv : vv n v = true
  wee : wee n v = true
  good : goodV n d v = true
  flat : D.flat n v = true
theorem intT_len {i : Int} (h : i.natAbs < 10 ^ 4) : (intT i).length ≤ 5 := by
  cases i with
  | ofNat n =>
    have := TL.numL_len (by decide : 0 < 4) (show n < 10 ^ 4 from h)
    rw [show intT (Int.ofNat n) = TL.numL n from intT_nn n]; omega
  | negSucc m =>
    have := TL.numL_len (by decide : 0 < 4) (show m + 1 < 10 ^ 4 from h)
    rw [intT_neg, List.length_cons]; omega
theorem leaf_good (n d : Nat) {v : D} (h : leafD v) : Good (n + 1) d v ∧ ∀ g, (shw (n + 1) g v).length ≤ 20 := by
  rcases h with rfl | ⟨b, rfl⟩ | ⟨i, rfl, h1, h2⟩ | rfl | rfl | rfl
  · exact ⟨⟨rfl, rfl, rfl, rfl⟩, fun g => by simp [shw]⟩
  · exact ⟨⟨rfl, rfl, rfl, rfl⟩, fun g => by cases b <;> simp [shw]⟩
  · have e : i.natAbs < 10 ^ 4 := by omega
    refine ⟨⟨decide_eq_true (by omega), rfl, decide_eq_true (by omega), rfl⟩, fun g => ?_⟩
    have := intT_len e
    show (intT i).length ≤ 20
    omega
  · exact ⟨⟨rfl, rfl, rfl, rfl⟩, fun g => by show (quoteT _).length ≤ 20; decide⟩
  · exact ⟨⟨rfl, rfl, rfl, rfl⟩, fun g => by show (quoteT _).length ≤ 20; decide⟩
  · exact ⟨⟨rfl, rfl, rfl, rfl⟩, fun g => by show (quoteT _).length ≤ 20; decide⟩
theorem drawn_good : ∀ (n d : Nat) (v : D), n ≤ d → drawnD n v → Good (n + 1) d v ∧ ∀ g, g.length ≤ 4 → (shw (n + 1) g v).length ≤ lenB n
  | 0, d, v, _, h => ⟨(leaf_good 0 d h).1, fun g _ => (leaf_good 0 d h).2 g⟩
  | n + 1, d, v, hd, h => by
    rcases h with h | ⟨xs, rfl, hl, hx⟩
    · exact ⟨(leaf_good (n + 1) d h).1, fun g _ => Nat.le_trans ((leaf_good (n + 1) d h).2 g) (by show 20 ≤ 30 + _; omega)⟩
    · have ih := fun x hx' => drawn_good n (d - 1) x (by omega) (hx x hx')
      refine ⟨⟨vvs_of fun x h => (ih x h).1.vv, ?_, ?_, ?_⟩, fun g hg => ?_⟩
      · show (decide (xs.length ≤ 1000) && wees (n + 1) xs) = true
        simp only [Bool.and_eq_true, decide_eq_true_eq]
        exact ⟨by omega, wees_of fun x h => (ih x h).1.wee⟩
      · show (decide (d ≠ 0) && xs.all (goodV (n + 1) (d - 1))) = true
        simp only [Bool.and_eq_true, decide_eq_true_eq, List.all_eq_true]
        exact ⟨by omega, fun x h => (ih x h).1.good⟩
      · show (decide (xs.length ≤ 16000000) && D.flats (n + 1) xs) = true
        simp only [Bool.and_eq_true, decide_eq_true_eq]
        exact ⟨by omega, flats_of fun x h => (ih x h).1.flat⟩
      · have j := joinL_le g (lenB n) (xs.map (shw (n + 1) g)) (fun y hy => by
          obtain ⟨x, hx', rfl⟩ := List.mem_map.mp hy
          exact (ih x hx').2 g hg)
        rw [List.length_map] at j
        have m : xs.length * (lenB n + g.length) ≤ 3 * (lenB n + 4) := Nat.mul_le_mul hl (by omega)
        show (40 :: (g.drop 1 ++ TL.joinL g (xs.map (shw (n + 1) g)) ++ g.drop 1 ++ [41])).length ≤ 30 + 3 * lenB n
        simp only [List.length_cons, List.length_append, List.length_drop, List.length_nil]
        omega
/-- a list filled from the tape -/
theorem lc_tape {ns : List Int} (i : Nat) (e : C) (ρ : Ro) (fr : List (List O)) (P : D → Prop)
    (h : ∀ x (a b c : Int), StOk a b c → ∃ v a' b' c', StOk a' b' c' ∧ P v ∧ e (ρ.set i (some x)) (fr ++ [T ns a b c]) = .ok v (fr ++ [T ns a' b' c'])) :
    ∀ (ds : List D) (a b c : Int), StOk a b c → ∃ vs a' b' c', StOk a' b' c' ∧ vs.length = ds.length ∧ (∀ v ∈ vs, P v) ∧ lcL (tgN i) ctYes e ρ ds (fr ++ [T ns a b c]) = .ok vs (fr ++ [T ns a' b' c'])
  | [], a, b, c, t => ⟨[], a, b, c, t, rfl, (fun _ h => nomatch h), rfl⟩
  | d :: ds, a, b, c, t => by
    obtain ⟨v, a1, b1, c1, t1, p1, e1⟩ := h d a b c t
    obtain ⟨vs, a2, b2, c2, t2, l2, p2, e2⟩ := lc_tape i e ρ fr P h ds a1 b1 c1 t1
    refine ⟨v :: vs, a2, b2, c2, t2, by simp [l2], fun w hw => ?_, ?_⟩
    · rcases List.mem_cons.mp hw with rfl | hw
      · exact p1
      · exact p2 w hw
    · rw [lcL_cons]
      simp [e1, e2]
theorem leaves (r : Int) (h0 : 0 ≤ r) (h1 : r < 2000) (q : Int) (q0 : 0 ≤ q) (q1 : q < 8) : ∃ v, leafD v ∧ atI [D.int (r - 1000), .str (tx []), .str (tx [105, 116, 39, 115, 32, 92, 32, 126, 10]), .str (tx [97, 9, 98]), .non, .bl true, .bl false, .int 0] q = some v := by
  have hq : q = 0 ∨ q = 1 ∨ q = 2 ∨ q = 3 ∨ q = 4 ∨ q = 5 ∨ q = 6 ∨ q = 7 := by omega
  rcases hq with rfl | rfl | rfl | rfl | rfl | rfl | rfl | rfl
  · exact ⟨_, .inr (.inr (.inl ⟨_, rfl, by omega, by omega⟩)), rfl⟩
  · exact ⟨_, .inr (.inr (.inr (.inl rfl))), rfl⟩
  · exact ⟨_, .inr (.inr (.inr (.inr (.inl rfl)))), rfl⟩
  · exact ⟨_, .inr (.inr (.inr (.inr (.inr rfl)))), rfl⟩
  · exact ⟨_, .inl rfl, rfl⟩
  · exact ⟨_, .inr (.inl ⟨_, rfl⟩), rfl⟩
  · exact ⟨_, .inr (.inl ⟨_, rfl⟩), rfl⟩
  · exact ⟨_, .inr (.inr (.inl ⟨_, rfl, by omega, by omega⟩)), rfl⟩
theorem draw_ok {ns : List Int} : ∀ (d k : Nat) (fr : List (List O)) (a b c : Int), d < k → StOk a b c → ∃ v a' b' c', StOk a' b' c' ∧ drawnD d v ∧ m__law_draw k [.ref 0 0, .int (d : Int)] (fr ++ [T ns a b c]) = .ok v (fr ++ [T ns a' b' c']) := by
  intro d
  induction d with
  | zero =>
    intro k fr a b c hk t
    obtain ⟨k, rfl⟩ : ∃ k', k = k' + 1 := ⟨k - 1, by omega⟩
    obtain ⟨r, a1, b1, c1, t1, r0, r1, e1⟩ := next_ok (ns := ns) (many := 2000) ([] :: fr) t (by decide)
    obtain ⟨q, a2, b2, c2, t2, q0, q1, e2⟩ := next_ok (ns := ns) (many := 8) ([] :: fr) t1 (by decide)
    obtain ⟨v, hv, ev⟩ := leaves r r0 r1 q q0 q1
    simp only [List.cons_append] at e1 e2
    refine ⟨v, a2, b2, c2, t2, hv, ?_⟩
    show runF 3 (c__law_draw (m__law_draw k)) _ _ = _
    simp only [c__law_draw, runF_eq, lits]
    simp [e1, e2, ev]
  | succ d ih =>
    intro k fr a b c hk t
    obtain ⟨k, rfl⟩ : ∃ k', k = k' + 1 := ⟨k - 1, by omega⟩
    obtain ⟨z, a0, b0, c0, t0, z0, z1, e0⟩ := next_ok (ns := ns) (many := 3) ([] :: fr) t (by decide)
    simp only [List.cons_append] at e0
    have dp : (0 : Int) < (d : Int) + 1 := by omega
    by_cases hz : z = 0
    · subst hz
      obtain ⟨m, a1, b1, c1, t1, m0, m1, e1⟩ := next_ok (ns := ns) (many := 4) ([] :: fr) t0 (by decide)
      simp only [List.cons_append] at e1
      obtain ⟨vs, a2, b2, c2, t2, l2, p2, e2⟩ := lc_tape (ns := ns) 2 (cCall (m__law_draw k) (caCons (cV 0) (caCons (cB gSub (cV 1) (cK (.int 1))) caNil))) [some (.ref 0 0), some (.int ((d : Int) + 1)), none] ([] :: fr) (drawnD d)
        (fun x a b c t => by
          obtain ⟨v, a', b', c', t', p', e'⟩ := ih k ([] :: fr) a b c (by omega) t
          refine ⟨v, a', b', c', t', p', ?_⟩
          have : ((d : Int) + 1 - 1) = d := by omega
          simp [this] at e' ⊢
          exact e') (rngD 0 m.toNat) a1 b1 c1 t1
      rw [rngD_len] at l2
      simp only [List.cons_append] at e2
      refine ⟨.tup vs, a2, b2, c2, t2, .inr ⟨vs, rfl, by omega, p2⟩, ?_⟩
      have m2 : -16000000 ≤ m ∧ m ≤ 16000000 := by omega
      have m3 : m.toNat ≤ 16000000 := by omega
      show runF 3 (c__law_draw (m__law_draw k)) _ _ = _
      simp only [c__law_draw, runF_eq, lits]
      simp [dp, e0, e1, e2, m2, m3]
    · obtain ⟨r, a1, b1, c1, t1, r0, r1, e1⟩ := next_ok (ns := ns) (many := 2000) ([] :: fr) t0 (by decide)
      obtain ⟨q, a2, b2, c2, t2, q0, q1, e2⟩ := next_ok (ns := ns) (many := 8) ([] :: fr) t1 (by decide)
      obtain ⟨v, hv, ev⟩ := leaves r r0 r1 q q0 q1
      simp only [List.cons_append] at e1 e2
      refine ⟨v, a2, b2, c2, t2, leaf_drawn hv, ?_⟩
      show runF 3 (c__law_draw (m__law_draw k)) _ _ = _
      simp only [c__law_draw, runF_eq, lits]
      simp [dp, e0, hz, e1, e2, ev]
end K02

namespace K02
open MP PySem L2
/-! ### the law's statements, one by one -/
noncomputable def q1 : CS := (cAsg (tgN 1) (cNew 0 (caCons (cCall gList (caCons (cV 0) caNil)) (caCons (cK (.int 0)) (caCons (cK (.int 0)) (caCons (cK (.int 2)) caNil))))))
noncomputable def q2 : CS := (cAsg (tgN 2) (cCall (m__law_draw 6) (caCons (cV 1) (caCons (cK (.int 3)) caNil))))
noncomputable def q3 : CS := (cPar [3, 4] (caCons (cCall (m_show 26) (caCons (cV 2) caNil)) (caCons (cB gItem (cTup (caCons (cK (.str " ")) (caCons (cK (.str "  ")) (caCons (cK (.str "\n ")) (caCons (cK (.str "   \n")) caNil))))) (cCall m__law_next (caCons (cV 1) (caCons (cK (.int 4)) caNil)))) caNil)))
noncomputable def q4 : CS := (cAsg (tgN 5) (cB gAddA (cB gAddA (cSl (cV 4) (coS (cK (.int 1))) coN) (cCall (m__law_show 26) (caCons (cV 2) (caCons (cV 4) caNil)))) (cSl (cV 4) (coS (cK (.int 1))) coN)))
noncomputable def q5 : CS := (cIfS (tNot (cT (cCall (m__law_same 30) (caCons (cLst (caCons (cV 3) (caCons (cCall m__law_asked (caCons (cV 3) caNil)) (caCons (cCall m__law_asked (caCons (cV 5) caNil)) (caCons (cCall m_is_shown (caCons (cV 2) caNil)) caNil))))) (caCons (cLst (caCons (cCall (m__law_show 26) (caCons (cV 2) (caCons (cK (.str " ")) caNil))) (caCons (cTup (caCons (cK (.str "yes")) (caCons (cV 2) caNil))) (caCons (cTup (caCons (cK (.str "yes")) (caCons (cV 2) caNil))) (caCons (cK (.bl true)) caNil))))) caNil))))) (cRet (cK (.bl false))) cNext)
noncomputable def q6b : CS := (cSeq (cPar [7, 8] (caCons (cCall m__law_next (caCons (cV 1) (caCons (cB gAddA (cCall gLenA (caCons (cV 3) caNil)) (cK (.int 1))) caNil))) (caCons (cB gItem (cK (.str "()' -0a\\n\n\tez")) (cCall m__law_next (caCons (cV 1) (caCons (cK (.int 13)) caNil)))) caNil))) (cSeq (cAsg (tgN 9) (cB gItem (cTup (caCons (cB gAddA (cSl (cV 3) coN (coS (cV 7))) (cSl (cV 3) (coS (cB gAddA (cV 7) (cK (.int 1)))) coN)) (caCons (cB gAddA (cB gAddA (cSl (cV 3) coN (coS (cV 7))) (cV 8)) (cSl (cV 3) (coS (cV 7)) coN)) (caCons (cB gAddA (cB gAddA (cSl (cV 3) coN (coS (cV 7))) (cV 8)) (cSl (cV 3) (coS (cB gAddA (cV 7) (cK (.int 1)))) coN)) (caCons (cSl (cV 3) coN (coS (cV 7))) caNil))))) (cCall m__law_next (caCons (cV 1) (caCons (cK (.int 4)) caNil))))) (cIfS (tNot (cT (cCall (m__law_same 30) (caCons (cCall m__law_asked (caCons (cV 9) caNil)) (caCons (cCall m__law_whole (caCons (cV 9) caNil)) caNil))))) (cRet (cK (.bl false))) cNext)))
noncomputable def q6 : CS := (cFor (ciR1 (caCons (cK (.int 5)) caNil)) (tgN 6) q6b)
noncomputable def q7 : CS := (cAsg (tgT [(tgN 10) , (tgN 11)]) (cTup (caCons (cTup caNil) (caCons (cK (.int 1)) caNil))))
noncomputable def q8b : CS := (cAsg (tgN 11) (cB gMul (cV 11) (cK (.int 10))))
noncomputable def q8 : CS := (cFor (ciR1 (caCons (cB gAddA (cK (.int 39)) (cCall m__law_next (caCons (cV 1) (caCons (cK (.int 3)) caNil)))) caNil)) (tgN 12) q8b)
noncomputable def q9 : CS := (cAsg (tgN 11) (cB gSub (cV 11) (cCall m__law_next (caCons (cV 1) (caCons (cK (.int 2)) caNil)))))
noncomputable def q10b : CS := (cAsg (tgN 10) (cIf (cTB (cB gEqA (cCall m__law_next (caCons (cV 1) (caCons (cK (.int 2)) caNil))) (cK (.int 0)))) (cTup (caCons (cV 10) (caCons (cK (.int 1)) caNil))) (cTup (caCons (cV 10) caNil))))
noncomputable def q10 : CS := (cFor (ciR1 (caCons (cB gAddA (cK (.int 18)) (cCall m__law_next (caCons (cV 1) (caCons (cK (.int 4)) caNil)))) caNil)) (tgN 12) q10b)
noncomputable def q11b : CS := (cSeq (cAsg (tgN 14) (cCall (m__law_show 26) (caCons (cV 13) (caCons (cK (.str " ")) caNil)))) (cIfS (tNot (cT (cCall (m__law_same 30) (caCons (cLst (caCons (cCall m__law_asked (caCons (cV 14) caNil)) (caCons (cCall m_is_shown (caCons (cV 13) caNil)) caNil))) (caCons (cLst (caCons (cCall m__law_whole (caCons (cV 14) caNil)) (caCons (cB gEqA (cB gItem (cCall m__law_whole (caCons (cV 14) caNil)) (cK (.int 0))) (cK (.str "yes"))) caNil))) caNil))))) (cRet (cK (.bl false))) cNext))
noncomputable def q11 : CS := (cForA (cTup (caCons (cV 10) (caCons (cV 11) (caCons (cU gNeg (cV 11)) (caCons (cTup (caCons (cK (.int 1)) (caCons (cV 11) caNil))) caNil))))) (tgN 13) q11b)
noncomputable def q12 : CS := (cAsg (tgN 15) (cLst (caCons (cK (.int 1)) (caCons (cK (.str "a")) (caCons (cK .non) (caCons (cK (.bl true)) (caCons (cTup caNil) (caCons (cTup (caCons (cK (.str "a")) (caCons (cTup (caCons (cK (.int 1)) (caCons (cK .non) caNil))) caNil))) (caCons (cLst (caCons (cK (.int 1)) caNil)) (caCons (cTup (caCons (cK (.str "a")) (caCons (cLst (caCons (cK (.int 2)) caNil)) caNil))) (caCons (cDisp [((cK (.str "a")) , (cK (.int 1)))]) (caCons (cTup (caCons (cK .non) (caCons (cLst caNil) caNil))) caNil))))))))))))
noncomputable def q13 : CS := (cAsg (tgN 16) (cMeth "str" gJoin (cK (.str "")) (caCons (cLc (ciR1 (caCons (cCall m__law_next (caCons (cV 1) (caCons (cK (.int 6)) caNil))) caNil)) (tgN 12) ctYes (cB gItem (cK (.str "a'\\\n\t )")) (cCall m__law_next (caCons (cV 1) (caCons (cK (.int 7)) caNil)))) [12]) caNil)))
noncomputable def q14 : CS := (cRet (cCall (m__law_same 30) (caCons (cLst (caCons (cLc (ciIt (cV 15)) (tgN 13) ctYes (cCall m_is_shown (caCons (cV 13) caNil)) [13]) (caCons (cCall m_quoted (caCons (cV 16) caNil)) (caCons (cCall m__law_asked (caCons (cCall m_quoted (caCons (cV 16) caNil)) caNil)) caNil)))) (caCons (cLst (caCons (cB gAddA (cB gMul (cLst (caCons (cK (.bl true)) caNil)) (cK (.int 6))) (cB gMul (cLst (caCons (cK (.bl false)) caNil)) (cK (.int 4)))) (caCons (cCall m__law_quoted (caCons (cV 16) caNil)) (caCons (cTup (caCons (cK (.str "yes")) (caCons (cV 16) caNil))) caNil)))) caNil))))
theorem c_law_eq : c_law = cSeq q1 (cSeq q2 (cSeq q3 (cSeq q4 (cSeq q5 (cSeq q6 (cSeq q7 (cSeq q8 (cSeq q9 (cSeq q10 (cSeq q11 (cSeq q12 (cSeq q13 (q14))))))))))))) := rfl
theorem forL_inv (i : Nat) (body : CS) (Inv : Ro → Sto → Prop) (h : ∀ x ρ S, Inv ρ S → ∃ ρ' S', Inv ρ' S' ∧ body (ρ.set i (some x)) S = .nx ρ' S') :
    ∀ (ds : List D) ρ S, Inv ρ S → ∃ ρ' S', Inv ρ' S' ∧ forL (tgN i) body ds ρ S = .nx ρ' S'
  | [], ρ, S, hI => ⟨ρ, S, hI, rfl⟩
  | d :: ds, ρ, S, hI => by
    obtain ⟨ρ1, S1, h1, e1⟩ := h d ρ S hI
    obtain ⟨ρ2, S2, h2, e2⟩ := forL_inv i body Inv h ds ρ1 S1 h1
    refine ⟨ρ2, S2, h2, ?_⟩
    rw [forL_cons]
    simp [e1, e2]
theorem atI_some {α : Type} (xs : List α) {r : Int} (h0 : 0 ≤ r) (h1 : r < xs.length) : ∃ x ∈ xs, atI xs r = some x := by
  rw [atI_nn h0]
  have : r.toNat < xs.length := by omega
  exact ⟨xs[r.toNat], List.getElem_mem _, List.getElem?_eq_getElem this⟩
/-- asked and whole tell the same -/
theorem both_ok {b : List Nat} (hb : b.length ≤ 16000000) (S : Sto) : m__law_same 30 [told b, told b] S = .ok (.bl true) S := by
  rw [same_eq]
  exact same_reflA 30 _ S (flat_more (by decide) (told_flat b hb))
theorem bent_ok {ns : List Int} {a : List Nat} (ha : a.length ≤ 1000000) (s v g lo x6 x7 x8 x9 : Option D) {i r st : Int} (t : StOk i r st) :
    ∃ x7' x8' x9' i' r' st', StOk i' r' st' ∧ q6b [s, some (.ref 0 0), v, some (.str (tx a)), g, lo, x6, x7, x8, x9, none, none, none, none, none, none, none] [T ns i r st]
      = .nx [s, some (.ref 0 0), v, some (.str (tx a)), g, lo, x6, x7', x8', x9', none, none, none, none, none, none, none] [T ns i' r' st'] := by
  obtain ⟨p, i1, r1, s1, t1, p0, p1, e1⟩ := next_ok (ns := ns) (many := (a.length : Int) + 1) [] t (by omega)
  obtain ⟨q, i2, r2, s2, t2, q0, q1, e2⟩ := next_ok (ns := ns) (many := 13) [] t1 (by decide)
  obtain ⟨k, i3, r3, s3, t3, k0, k1, e3⟩ := next_ok (ns := ns) (many := 4) [] t2 (by decide)
  simp only [List.nil_append] at e1 e2 e3
  obtain ⟨c, _, hc⟩ := atI_some [40, 41, 39, 32, 45, 48, 97, 92, 110, 10, 9, 101, 122] q0 q1
  obtain ⟨p, rfl⟩ : ∃ n : Nat, p = n := ⟨p.toNat, by omega⟩
  have c1 : cutL a none (some (p : Int)) = a.take p := cutL_to a p
  have c2 : cutL a (some (p : Int)) none = a.drop p := cutL_from a p
  have c3 : cutL a (some ((p : Int) + 1)) none = a.drop (p + 1) := cutL_from a (p + 1)
  have l1 : (a.take p).length ≤ 1000000 := by rw [List.length_take]; omega
  have l2 : (a.drop p).length ≤ 1000000 := by rw [List.length_drop]; omega
  have l3 : (a.drop (p + 1)).length ≤ 1000000 := by rw [List.length_drop]; omega
  have ha' : a.length ≤ 16000000 := by omega
  generalize a.take p = u at c1 l1
  generalize a.drop p = w at c2 l2
  generalize a.drop (p + 1) = z at c3 l3
  have m1 : u.length + z.length ≤ 16000000 := by omega
  have m2 : u.length + 1 ≤ 16000000 := by omega
  have m3 : u.length + 1 + w.length ≤ 16000000 := by omega
  have m4 : u.length + 1 + z.length ≤ 16000000 := by omega
  have m5 : u.length + (w.length + 1) ≤ 16000000 := by omega
  have m6 : u.length + (z.length + 1) ≤ 16000000 := by omega
  have m7 : u.length ≤ 16000000 := by omega
  obtain ⟨b, hb, hk⟩ : ∃ b : List Nat, b.length ≤ 16000000 ∧ atI [D.str (tx (u ++ z)), D.str (tx (u ++ c :: w)), D.str (tx (u ++ c :: z)), D.str (tx u)] k = some (D.str (tx b)) := by
    have : k = 0 ∨ k = 1 ∨ k = 2 ∨ k = 3 := by omega
    rcases this with rfl | rfl | rfl | rfl
    · exact ⟨_, by simp; omega, rfl⟩
    · exact ⟨_, by simp; omega, rfl⟩
    · exact ⟨_, by simp; omega, rfl⟩
    · exact ⟨_, m7, rfl⟩
  refine ⟨some (.int p), some (.str (tx [c])), some (.str (tx b)), i3, r3, s3, t3, ?_⟩
  simp only [q6b, lits]
  simp [ha', e1, e2, e3, hc, c1, c2, c3, m1, m2, m3, m4, m5, m6, m7, hk, asked_ok hb, whole_ok hb, both_ok hb]
end K02

namespace K02
open MP PySem L2
theorem is_shown_ok {n : Nat} (hn : n ≤ 26) {v : D} (hv : vv n v = true) (hw : wee n v = true) (S : Sto) : m_is_shown [v] S = .ok (.bl (goodV n 20 v)) S := by
  have e := shownAt_ok n 26 20 v ([] :: S) hn (by decide) hv hw
  have e' : m_is_shown_at 26 [v, .int 0] ([] :: S) = .ok (.bl (goodV n 20 v)) ([] :: S) := e
  simp [m_is_shown, c_is_shown, runF_eq, e']
theorem one_ok {n : Nat} (hn : n ≤ 26) {v : D} (hv : vv n v = true) (hw : wee n v = true) (hl : (shw n [32] v).length ≤ 1000000) (x0 x1 x2 x3 x4 x5 x6 x7 x8 x9 x10 x11 x12 x14 : Option D) (S : Sto) :
    q11b [x0, x1, x2, x3, x4, x5, x6, x7, x8, x9, x10, x11, x12, some v, x14, none, none] S = .nx [x0, x1, x2, x3, x4, x5, x6, x7, x8, x9, x10, x11, x12, some v, some (.str (tx (shw n [32] v))), none, none] S := by
  have sh := lshow_ok [32] (by decide) (by decide) n 26 v S hn hv hl
  have hb : (shw n [32] v).length ≤ 16000000 := by omega
  have is := is_shown_ok hn hv hw S
  obtain ⟨g1, g2⟩ := told_shw [32] (by decide) (by decide) [] [] (by decide) (by decide) hv
  rw [List.nil_append, List.append_nil] at g1 g2
  have fl := told_flat _ hb
  have as := asked_ok hb S
  have wh := whole_ok hb S
  generalize shw n [32] v = t at *
  simp only [q11b, lits]
  cases b : goodV n 20 v with
  | true =>
    have e := g1 b
    have fl2 : D.flat 30 (.lst [told t, .bl true]) = true := by
      have := flat_more (m := 29) (by decide) fl
      simp [D.flat, D.flats, this]
    rw [e] at fl2 as wh
    rw [b] at is
    simp [sh, is, as, wh, atI, ixN, same_eq, same_reflA 30 _ S fl2]
  | false =>
    obtain ⟨p, e⟩ := g2 b
    have fl2 : D.flat 30 (.lst [told t, .bl false]) = true := by
      have := flat_more (m := 29) (by decide) fl
      simp [D.flat, D.flats, this]
    rw [e] at fl2 as wh
    rw [b] at is
    simp [sh, is, as, wh, atI, ixN, same_eq, same_reflA 30 _ S fl2]
def chainD : Nat → D → Prop
  | 0, v => v = .tup []
  | n + 1, v => ∃ w, chainD n w ∧ (v = .tup [w, .int 1] ∨ v = .tup [w])
theorem chain_good : ∀ (n : Nat) (v : D), chainD n v → vv (n + 2) v = true ∧ wee (n + 2) v = true ∧ (shw (n + 2) [32] v).length ≤ 4 * n + 2
  | 0, v, h => by
    cases h
    exact ⟨rfl, rfl, by decide⟩
  | n + 1, v, h => by
    obtain ⟨w, hw, h⟩ := h
    obtain ⟨a, b, c⟩ := chain_good n w hw
    rcases h with rfl | rfl
    · refine ⟨?_, ?_, ?_⟩
      · show (vv (n + 2) w && (true && true)) = true
        rw [a]; rfl
      · show (decide (2 ≤ 1000) && (wee (n + 2) w && (true && true))) = true
        rw [b]; rfl
      · show (40 :: ([] ++ (shw (n + 2) [32] w ++ ([32] ++ intT 1)) ++ [] ++ [41])).length ≤ _
        have : (intT 1).length = 1 := by decide +kernel
        simp [this]; omega
    · refine ⟨?_, ?_, ?_⟩
      · show (vv (n + 2) w && true) = true
        rw [a]; rfl
      · show (decide (1 ≤ 1000) && (wee (n + 2) w && true)) = true
        rw [b]; rfl
      · show (40 :: ([] ++ shw (n + 2) [32] w ++ [] ++ [41])).length ≤ _
        simp; omega
theorem deep_step {ns : List Int} {n : Nat} {v : D} (hv : chainD n v) (x0 x2 x3 x4 x5 x6 x7 x8 x9 x11 x12 : Option D) {i r st : Int} (t : StOk i r st) : ∃ v' i' r' st', chainD (n + 1) v' ∧ StOk i' r' st' ∧
    q10b [x0, some (.ref 0 0), x2, x3, x4, x5, x6, x7, x8, x9, some v, x11, x12, none, none, none, none] [T ns i r st] = .nx [x0, some (.ref 0 0), x2, x3, x4, x5, x6, x7, x8, x9, some v', x11, x12, none, none, none, none] [T ns i' r' st'] := by
  obtain ⟨p, i1, r1, s1, t1, p0, p1, e1⟩ := next_ok (ns := ns) (many := 2) [] t (by decide)
  simp only [List.nil_append] at e1
  by_cases hp : p = 0
  · refine ⟨_, i1, r1, s1, ⟨v, hv, .inl rfl⟩, t1, ?_⟩
    simp [q10b, e1, hp]
  · refine ⟨_, i1, r1, s1, ⟨v, hv, .inr rfl⟩, t1, ?_⟩
    simp [q10b, e1, hp]
theorem deep_loop {ns : List Int} (x0 x2 x3 x4 x5 x6 x7 x8 x9 x11 : Option D) : ∀ (ds : List D) (n : Nat) (v : D) (x12 : Option D) (i r st : Int), chainD n v → StOk i r st → ∃ v' x12' i' r' st', chainD (n + ds.length) v' ∧ StOk i' r' st' ∧
    forL (tgN 12) q10b ds [x0, some (.ref 0 0), x2, x3, x4, x5, x6, x7, x8, x9, some v, x11, x12, none, none, none, none] [T ns i r st] = .nx [x0, some (.ref 0 0), x2, x3, x4, x5, x6, x7, x8, x9, some v', x11, x12', none, none, none, none] [T ns i' r' st']
  | [], n, v, x12, i, r, st, h, t => ⟨v, x12, i, r, st, h, t, rfl⟩
  | d :: ds, n, v, x12, i, r, st, h, t => by
    obtain ⟨v1, i1, r1, s1, h1, t1, e1⟩ := deep_step (ns := ns) h x0 x2 x3 x4 x5 x6 x7 x8 x9 x11 (some d) t
    obtain ⟨v2, x2', i2, r2, s2, h2, t2, e2⟩ := deep_loop (ns := ns) x0 x2 x3 x4 x5 x6 x7 x8 x9 x11 ds (n + 1) v1 (some d) i1 r1 s1 h1 t1
    refine ⟨v2, x2', i2, r2, s2, by rw [List.length_cons, show n + (ds.length + 1) = n + 1 + ds.length by omega]; exact h2, t2, ?_⟩
    rw [forL_cons]
    simp [e1, e2]
theorem large_loop (x0 x1 x2 x3 x4 x5 x6 x7 x8 x9 x10 : Option D) (S : Sto) : ∀ (ds : List D) (m : Int) (x12 : Option D), ∃ x12', 
    forL (tgN 12) q8b ds [x0, x1, x2, x3, x4, x5, x6, x7, x8, x9, x10, some (.int m), x12, none, none, none, none] S = .nx [x0, x1, x2, x3, x4, x5, x6, x7, x8, x9, x10, some (.int (m * 10 ^ ds.length)), x12', none, none, none, none] S
  | [], m, x12 => ⟨x12, by simp⟩
  | d :: ds, m, x12 => by
    obtain ⟨y, e⟩ := large_loop x0 x1 x2 x3 x4 x5 x6 x7 x8 x9 x10 S ds (m * 10) (some d)
    refine ⟨y, ?_⟩
    rw [forL_cons]
    have : m * 10 * 10 ^ ds.length = m * 10 ^ (ds.length + 1) := by rw [Int.pow_succ, Int.mul_assoc, Int.mul_comm 10]
    rw [this] at e
    have b : q8b [x0, x1, x2, x3, x4, x5, x6, x7, x8, x9, x10, some (.int m), some d, none, none, none, none] S = .nx [x0, x1, x2, x3, x4, x5, x6, x7, x8, x9, x10, some (.int (m * 10)), some d, none, none, none, none] S := by simp [q8b]
    simp [b, e]
end K02

namespace K02
open MP PySem L2
theorem at_lst (k : Nat) (xs : List D) (d : D) (S : Sto) : m_is_shown_at (k + 1) [.lst xs, d] S = .ok (.bl false) S := by
  show runF 3 (c_is_shown_at (m_is_shown_at k)) _ S = _
  simp [c_is_shown_at, runF_eq]
theorem at_box (k : Nat) (ks : List Key) (xs : List D) (d : D) (S : Sto) : m_is_shown_at (k + 1) [.box (.dK ks) xs, d] S = .ok (.bl false) S := by
  show runF 3 (c_is_shown_at (m_is_shown_at k)) _ S = _
  simp [c_is_shown_at, runF_eq]
theorem at_two (k : Nat) (x : D) (xs : List D) (S : Sto) (hx : ∀ S, m_is_shown_at (k + 1) [x, .int 1] S = .ok (.bl true) S) : m_is_shown_at (k + 2) [.tup [x, .lst xs], .int 0] S = .ok (.bl false) S := by
  show runF 3 (c_is_shown_at (m_is_shown_at (k + 1))) _ S = _
  have a := at_lst k xs (.int 1)
  have e : gAll [.lst [.bl true, .bl false]] ([] :: S) = .ok (.bl false) ([] :: S) := gAll_l _ _ (ns := [true, false]) rfl
  simp [c_is_shown_at, runF_eq, lcL_cons, hx, a, e]
theorem at_leaf (k : Nat) (v d : D) (S : Sto) (h : v = .non ∨ ∃ x, v = .str x) : m_is_shown_at (k + 1) [v, d] S = .ok (.bl true) S := by
  show runF 3 (c_is_shown_at (m_is_shown_at k)) _ S = _
  rcases h with rfl | ⟨x, rfl⟩ <;> simp [c_is_shown_at, runF_eq]
theorem odd_ok (S : Sto) : m_is_shown [.int 1] S = .ok (.bl true) S ∧ m_is_shown [.str (tx [97])] S = .ok (.bl true) S ∧ m_is_shown [.non] S = .ok (.bl true) S ∧ m_is_shown [.bl true] S = .ok (.bl true) S ∧ m_is_shown [.tup []] S = .ok (.bl true) S ∧
    m_is_shown [.tup [.str (tx [97]), .tup [.int 1, .non]]] S = .ok (.bl true) S ∧ m_is_shown [.lst [.int 1]] S = .ok (.bl false) S ∧ m_is_shown [.tup [.str (tx [97]), .lst [.int 2]]] S = .ok (.bl false) S ∧
    m_is_shown [.box (.dK [.inr (tx [97])]) [.int 1]] S = .ok (.bl false) S ∧ m_is_shown [.tup [.non, .lst []]] S = .ok (.bl false) S := by
  refine ⟨is_shown_ok (n := 3) (by decide) rfl rfl S, is_shown_ok (n := 3) (by decide) rfl rfl S, is_shown_ok (n := 3) (by decide) rfl rfl S, is_shown_ok (n := 3) (by decide) rfl rfl S, is_shown_ok (n := 3) (by decide) rfl rfl S, is_shown_ok (n := 3) (by decide) rfl rfl S, ?_, ?_, ?_, ?_⟩
  · have := at_lst 25 [.int 1] (.int 0) ([] :: S)
    simp [m_is_shown, c_is_shown, runF_eq, this]
  · have := at_two 24 (.str (tx [97])) [.int 2] ([] :: S) fun S => at_leaf 24 _ _ S (.inr ⟨_, rfl⟩)
    simp [m_is_shown, c_is_shown, runF_eq, this]
  · have := at_box 25 [.inr (tx [97])] [.int 1] (.int 0) ([] :: S)
    simp [m_is_shown, c_is_shown, runF_eq, this]
  · have := at_two 24 .non [] ([] :: S) fun S => at_leaf 24 _ _ S (.inl rfl)
    simp [m_is_shown, c_is_shown, runF_eq, this]
end K02

namespace K02
open MP PySem L2
theorem gap_ok (q : Int) (q0 : 0 ≤ q) (q1 : q < 4) : ∃ g : List Nat, g.length ≤ 4 ∧ 1 ≤ g.length ∧ (∀ c ∈ g, blank c = true) ∧ atI [D.str (tx [32]), .str (tx [32, 32]), .str (tx [10, 32]), .str (tx [32, 32, 32, 10])] q = some (.str (tx g)) := by
  have hq : q = 0 ∨ q = 1 ∨ q = 2 ∨ q = 3 := by omega
  rcases hq with rfl | rfl | rfl | rfl
  · exact ⟨_, by decide, by decide, by decide, rfl⟩
  · exact ⟨_, by decide, by decide, by decide, rfl⟩
  · exact ⟨_, by decide, by decide, by decide, rfl⟩
  · exact ⟨_, by decide, by decide, by decide, rfl⟩
/-- what holds of the drawn value -/
theorem first_ok {v : D} (hv : drawnD 3 v) {g : List Nat} (hg : g.length ≤ 4) (hg1 : 1 ≤ g.length) (hb : ∀ c ∈ g, blank c = true) (x0 x1 : D) (x6 : Ro) (S : Sto) (h6 : x6 = List.replicate 11 none) :
    q4 ([some x0, some x1, some v, some (.str (tx (shw 4 [32] v))), some (.str (tx g)), none] ++ x6) S = .nx ([some x0, some x1, some v, some (.str (tx (shw 4 [32] v))), some (.str (tx g)), some (.str (tx (g.drop 1 ++ (shw 4 g v ++ g.drop 1))))] ++ x6) S ∧
    q5 ([some x0, some x1, some v, some (.str (tx (shw 4 [32] v))), some (.str (tx g)), some (.str (tx (g.drop 1 ++ (shw 4 g v ++ g.drop 1))))] ++ x6) S = .nx ([some x0, some x1, some v, some (.str (tx (shw 4 [32] v))), some (.str (tx g)), some (.str (tx (g.drop 1 ++ (shw 4 g v ++ g.drop 1))))] ++ x6) S := by
  subst h6
  obtain ⟨⟨a1, a2, a3, a4⟩, a5⟩ := drawn_good 3 20 v (by decide) hv
  have l1 : (shw 4 [32] v).length ≤ lenB 3 := a5 [32] (by decide)
  have l2 : (shw 4 g v).length ≤ lenB 3 := a5 g hg
  have lb : lenB 3 = 930 := by decide
  rw [lb] at l1 l2
  have sh1 := lshow_ok [32] (by decide) (by decide) 4 26 v S (by decide) a1 (by omega)
  have sh2 := lshow_ok g (by omega) hg1 4 26 v S (by decide) a1 (by omega)
  have is := is_shown_ok (n := 4) (by decide) a1 a2 S
  rw [a3] at is
  have hne : g ≠ [] := by intro e; rw [e] at hg1; simp at hg1
  have hw : ∀ c ∈ g.drop 1, blank c = true := fun c h => hb c (List.mem_of_mem_drop h)
  have t1 := (told_shw [32] (by decide) (by decide) [] [] (by decide) (by decide) a1).1 a3
  have t2 := (told_shw g hb hne (g.drop 1) (g.drop 1) hw hw a1).1 a3
  rw [List.nil_append, List.append_nil] at t1
  have lw : (g.drop 1).length ≤ 4 := by rw [List.length_drop]; omega
  have cu : cutL g (some 1) none = g.drop 1 := cutL_from1 g
  have z0 : g.length ≤ 16000000 := by omega
  have as1 := asked_ok (a := shw 4 [32] v) (by omega) S
  have as2 := asked_ok (a := g.drop 1 ++ (shw 4 g v ++ g.drop 1)) (by simp only [List.length_append]; omega) S
  rw [t1] at as1
  rw [t2] at as2
  generalize g.drop 1 = w at *
  generalize shw 4 [32] v = u1 at *
  generalize shw 4 g v = u2 at *
  have z1 : w.length + u2.length ≤ 16000000 := by omega
  have z2 : w.length + u2.length + w.length ≤ 16000000 := by omega
  refine ⟨?_, ?_⟩
  · simp only [q4, lits]
    simp [z0, cu, sh2, z1, z2]
  · have f : D.flat 30 (.lst [.str (tx u1), .tup [.str (tx [121, 101, 115]), v], .tup [.str (tx [121, 101, 115]), v], .bl true]) = true := by
      have := flat_more (m := 28) (by decide) a4
      simp [D.flat, D.flats, this]
    simp only [q5, lits]
    simp [as1, as2, is, sh1, same_eq, same_reflA 30 _ S f]
theorem bents_ok {ns : List Int} {a : List Nat} (ha : a.length ≤ 1000000) (s v g lo : Option D) {i r st : Int} (t : StOk i r st) :
    ∃ x6 x7 x8 x9 i' r' st', StOk i' r' st' ∧ q6 [s, some (.ref 0 0), v, some (.str (tx a)), g, lo, none, none, none, none, none, none, none, none, none, none, none] [T ns i r st]
      = .nx [s, some (.ref 0 0), v, some (.str (tx a)), g, lo, x6, x7, x8, x9, none, none, none, none, none, none, none] [T ns i' r' st'] := by
  obtain ⟨ρ', S', ⟨x6, x7, x8, x9, i', r', st', t', e1, e2⟩, e⟩ := forL_inv 6 q6b (fun ρ S => ∃ x6 x7 x8 x9 i' r' st', StOk i' r' st' ∧ ρ = [s, some (.ref 0 0), v, some (.str (tx a)), g, lo, x6, x7, x8, x9, none, none, none, none, none, none, none] ∧ S = [T ns i' r' st'])
    (fun x ρ S ⟨x6, x7, x8, x9, i', r', st', t', e1, e2⟩ => by
      subst e1; subst e2
      obtain ⟨x7', x8', x9', i2, r2, s2, t2, e⟩ := bent_ok (ns := ns) ha s v g lo (some x) x7 x8 x9 t'
      exact ⟨_, _, ⟨some x, x7', x8', x9', i2, r2, s2, t2, rfl, rfl⟩, e⟩)
    (rngD 0 5) [s, some (.ref 0 0), v, some (.str (tx a)), g, lo, none, none, none, none, none, none, none, none, none, none, none] [T ns i r st] ⟨_, _, _, _, i, r, st, t, rfl, rfl⟩
  subst e1; subst e2
  refine ⟨x6, x7, x8, x9, i', r', st', t', ?_⟩
  simp [q6, e]
theorem ones_ok {v : D} {k : Nat} (hk : k ≤ 21) (hv : chainD k v) {L : Int} (hL : L.natAbs ≤ 10 ^ 42) (x0 x1 x2 x3 x4 x5 x6 x7 x8 x9 x12 : Option D) (S : Sto) : ∃ x13 x14,
    q11 [x0, x1, x2, x3, x4, x5, x6, x7, x8, x9, some v, some (.int L), x12, none, none, none, none] S = .nx [x0, x1, x2, x3, x4, x5, x6, x7, x8, x9, some v, some (.int L), x12, x13, x14, none, none] S := by
  obtain ⟨a1, a2, a3⟩ := chain_good k v hv
  have big : (10 : Nat) ^ 42 < 10 ^ 60 := by decide
  have il : ∀ i : Int, i.natAbs ≤ 10 ^ 42 → (intT i).length ≤ 100 := fun i hi => by
    cases i with
    | ofNat n =>
      have := TL.numL_len (by decide : 0 < 60) (show n < 10 ^ 60 from Nat.lt_of_le_of_lt hi big)
      rw [show intT (Int.ofNat n) = TL.numL n from intT_nn n]; omega
    | negSucc m =>
      have := TL.numL_len (by decide : 0 < 60) (show m + 1 < 10 ^ 60 from Nat.lt_of_le_of_lt hi big)
      rw [intT_neg, List.length_cons]; omega
  have iv : ∀ i : Int, i.natAbs ≤ 10 ^ 42 → vv 1 (.int i) = true := fun i hi => decide_eq_true (Nat.lt_of_le_of_lt hi big)
  have hn : (-L).natAbs ≤ 10 ^ 42 := by rw [Int.natAbs_neg]; exact hL
  have v2 : vv 2 (.tup [.int 1, .int L]) = true := by
    show (vv 1 (.int 1) && (vv 1 (.int L) && true)) = true
    rw [iv L hL]; rfl
  have l2 : (shw 2 [32] (.tup [.int 1, .int L])).length ≤ 1000000 := by
    show (40 :: ([] ++ (intT 1 ++ ([32] ++ intT L)) ++ [] ++ [41])).length ≤ _
    have : (intT 1).length = 1 := by decide +kernel
    have := il L hL
    simp only [List.length_cons, List.length_append, List.length_nil]; omega
  have o1 := one_ok (n := k + 2) (by omega) a1 a2 (by omega) x0 x1 x2 x3 x4 x5 x6 x7 x8 x9 (some v) (some (.int L)) x12 none S
  have o2 := fun y => one_ok (n := 1) (by decide) (iv L hL) rfl (show (intT L).length ≤ 1000000 by have := il L hL; omega) x0 x1 x2 x3 x4 x5 x6 x7 x8 x9 (some v) (some (.int L)) x12 y S
  have o3 := fun y => one_ok (n := 1) (by decide) (iv (-L) hn) rfl (show (intT (-L)).length ≤ 1000000 by have := il (-L) hn; omega) x0 x1 x2 x3 x4 x5 x6 x7 x8 x9 (some v) (some (.int L)) x12 y S
  have o4 := fun y => one_ok (n := 2) (by decide) v2 rfl l2 x0 x1 x2 x3 x4 x5 x6 x7 x8 x9 (some v) (some (.int L)) x12 y S
  refine ⟨some (.tup [.int 1, .int L]), some (.str (tx (shw 2 [32] (.tup [.int 1, .int L])))), ?_⟩
  simp only [q11]
  simp [forL_cons, o1, o2, o3, o4]
theorem ones_flat : ∀ cs : List Nat, (cs.map fun c => [c]).flatten = cs
  | [] => rfl
  | c :: cs => by rw [List.map_cons, List.flatten_cons, ones_flat cs]; rfl
theorem ones_sum : ∀ cs : List Nat, ((cs.map fun c => [c]).map List.length).sum = cs.length
  | [] => rfl
  | c :: cs => by rw [List.map_cons, List.map_cons, List.sum_cons, ones_sum cs, List.length_cons, List.length_cons]; simp; omega
theorem word_ok {ns : List Int} (x0 x2 x3 x4 x5 x6 x7 x8 x9 x10 x11 x12 x13 x14 x15 : Option D) {i r st : Int} (t : StOk i r st) : ∃ w : List Nat, w.length ≤ 5 ∧ ∃ i' r' st', StOk i' r' st' ∧
    q13 [x0, some (.ref 0 0), x2, x3, x4, x5, x6, x7, x8, x9, x10, x11, x12, x13, x14, x15, none] [T ns i r st] = .nx [x0, some (.ref 0 0), x2, x3, x4, x5, x6, x7, x8, x9, x10, x11, x12, x13, x14, x15, some (.str (tx w))] [T ns i' r' st'] := by
  obtain ⟨m, i1, r1, s1, t1, m0, m1, e1⟩ := next_ok (ns := ns) (many := 6) [] t (by decide)
  obtain ⟨vs, i2, r2, s2, t2, l2, p2, e2⟩ := lc_tape (ns := ns) 12 (cB gItem (cK (.str (tx [97, 39, 92, 10, 9, 32, 41]))) (cCall m__law_next (caCons (cV 1) (caCons (cK (.int 7)) caNil)))) [x0, some (.ref 0 0), x2, x3, x4, x5, x6, x7, x8, x9, x10, x11, none, x13, x14, x15, none] [] (fun v => ∃ c, v = .str (tx [c]))
    (fun x a b c t => by
      obtain ⟨q, a', b', c', t', q0, q1, e'⟩ := next_ok (ns := ns) (many := 7) [] t (by decide)
      obtain ⟨c, _, hc⟩ := atI_some [97, 39, 92, 10, 9, 32, 41] q0 q1
      simp only [List.nil_append] at e'
      exact ⟨_, a', b', c', t', ⟨c, rfl⟩, by simp [e', hc]⟩) (rngD 0 m.toNat) i1 r1 s1 t1
  rw [rngD_len] at l2
  simp only [List.nil_append] at e1 e2
  obtain ⟨cs, rfl⟩ : ∃ cs : List Nat, vs = cs.map fun c => D.str (tx [c]) := by
    clear e2 l2
    induction vs with
    | nil => exact ⟨[], rfl⟩
    | cons v vs ih =>
      obtain ⟨cs, h⟩ := ih fun v hv => p2 v (List.mem_cons_of_mem _ hv)
      obtain ⟨c, rfl⟩ := p2 v List.mem_cons_self
      exact ⟨c :: cs, by rw [h]; rfl⟩
  rw [List.length_map] at l2
  have J := gJoin_tx [] (cs.map fun c => [c]) [T ns i2 r2 s2] (by rw [ones_sum]; simp; omega)
  rw [joinL_nil, ones_flat, List.map_map] at J
  have J2 : gJoin (.str (tx [])) [.lst (cs.map fun c => D.str (tx [c]))] [T ns i2 r2 s2] = .ok (.str (tx cs)) [T ns i2 r2 s2] := J
  refine ⟨cs, by omega, i2, r2, s2, t2, ?_⟩
  have m2 : -16000000 ≤ m ∧ m ≤ 16000000 := by omega
  have m3 : m.toNat ≤ 16000000 := by omega
  simp only [q13, lits]
  simp [e1, e2, m2, m3, J2]
theorem last_ok (w : List Nat) (hw : w.length ≤ 5) (x0 x1 x2 x3 x4 x5 x6 x7 x8 x9 x10 x11 x12 x13 x14 : Option D) (S : Sto) :
    q14 [x0, x1, x2, x3, x4, x5, x6, x7, x8, x9, x10, x11, x12, x13, x14, some (.lst [.int 1, .str (tx [97]), .non, .bl true, .tup [], .tup [.str (tx [97]), .tup [.int 1, .non]], .lst [.int 1], .tup [.str (tx [97]), .lst [.int 2]], .box (.dK [.inr (tx [97])]) [.int 1], .tup [.non, .lst []]]), some (.str (tx w))] S = .ret (.bl true) S := by
  obtain ⟨s1, s2, s3, s4, s5, s6, s7, s8, s9, s10⟩ := odd_ok S
  have q1 := quoted_ok (x := w) (by omega) S
  have q2 := lquoted_ok (x := w) (by omega) S
  have ql : (quoteT w).length ≤ 16000000 := by
    have := flat_len w
    unfold quoteT
    simp only [List.length_cons, List.length_append, List.length_nil]; omega
  have as := asked_ok ql S
  have t1 := (told_shw [32] (by decide) (by decide) (n := 1) (v := .str (tx w)) [] [] (by decide) (by decide) rfl).1 rfl
  rw [List.nil_append, List.append_nil] at t1
  have t2 : told (quoteT w) = .tup [.str (tx [121, 101, 115]), .str (tx w)] := t1
  rw [t2] at as
  generalize quoteT w = u at *
  have f : D.flat 30 (.lst [.lst [.bl true, .bl true, .bl true, .bl true, .bl true, .bl true, .bl false, .bl false, .bl false, .bl false], .str (tx u), .tup [.str (tx [121, 101, 115]), .str (tx w)]]) = true := rfl
  have rf := same_reflA 30 _ S f
  simp only [q14, lits]
  simp [lcL_cons, s1, s2, s3, s4, s5, s6, s7, s8, s9, s10, q1, q2, as, same_eq, rf]
theorem law_holds (ns : List Int) (h : ns.length ≤ 63) : m_law [.rol (ns.map D.int)] [] = .ok (.bl true) [] := by
  have t0 : StOk 0 0 2 := ⟨by decide, by decide, by decide⟩
  have e1 : q1 [some (.rol (ns.map D.int)), none, none, none, none, none, none, none, none, none, none, none, none, none, none, none, none] [[]] = .nx [some (.rol (ns.map D.int)), some (.ref 0 0), none, none, none, none, none, none, none, none, none, none, none, none, none, none, none] [T ns 0 0 2] := by
    simp [q1, newAt, D.les, D.le, T]
  obtain ⟨v, i2, r2, s2, t2, hv, d2⟩ := draw_ok (ns := ns) 3 6 [] 0 0 2 (by decide) t0
  rw [List.nil_append, List.nil_append] at d2
  have d2' : m__law_draw 6 [.ref 0 0, .int 3] [T ns 0 0 2] = .ok v [T ns i2 r2 s2] := d2
  have e2 : q2 [some (.rol (ns.map D.int)), some (.ref 0 0), none, none, none, none, none, none, none, none, none, none, none, none, none, none, none] [T ns 0 0 2] = .nx [some (.rol (ns.map D.int)), some (.ref 0 0), some v, none, none, none, none, none, none, none, none, none, none, none, none, none, none] [T ns i2 r2 s2] := by
    simp [q2, d2']
  obtain ⟨q, i3, r3, s3, t3, q0, q1', n3⟩ := next_ok (ns := ns) (many := 4) [] t2 (by decide)
  rw [List.nil_append, List.nil_append] at n3
  obtain ⟨g, g4, g1, gb, gq⟩ := gap_ok q q0 q1'
  obtain ⟨⟨a1, a2, a3, a4⟩, a5⟩ := drawn_good 3 20 v (by decide) hv
  have lb : lenB 3 = 930 := by decide
  have l1 : (shw 4 [32] v).length ≤ lenB 3 := a5 [32] (by decide)
  rw [lb] at l1
  have sh := show_ok 4 26 v [T ns i2 r2 s2] (by decide) a1 (by omega)
  have e3 : q3 [some (.rol (ns.map D.int)), some (.ref 0 0), some v, none, none, none, none, none, none, none, none, none, none, none, none, none, none] [T ns i2 r2 s2] = .nx [some (.rol (ns.map D.int)), some (.ref 0 0), some v, some (.str (tx (shw 4 [32] v))), some (.str (tx g)), none, none, none, none, none, none, none, none, none, none, none, none] [T ns i3 r3 s3] := by
    simp only [q3, lits]
    simp [sh, n3, gq]
  obtain ⟨e4, e5⟩ := first_ok hv g4 g1 gb (.rol (ns.map D.int)) (.ref 0 0) _ [T ns i3 r3 s3] rfl
  simp only [List.replicate, List.cons_append, List.nil_append] at e4 e5
  obtain ⟨x6, x7, x8, x9, i6, r6, s6, t6, e6⟩ := bents_ok (ns := ns) (a := shw 4 [32] v) (by omega) (some (.rol (ns.map D.int))) (some v) (some (.str (tx g))) (some (.str (tx (g.drop 1 ++ (shw 4 g v ++ g.drop 1))))) t3
  generalize shw 4 [32] v = a at *
  generalize g.drop 1 ++ (shw 4 g v ++ g.drop 1) = b at *
  have e7 : q7 [some (.rol (ns.map D.int)), some (.ref 0 0), some v, some (.str (tx a)), some (.str (tx g)), some (.str (tx b)), x6, x7, x8, x9, none, none, none, none, none, none, none] [T ns i6 r6 s6] = .nx [some (.rol (ns.map D.int)), some (.ref 0 0), some v, some (.str (tx a)), some (.str (tx g)), some (.str (tx b)), x6, x7, x8, x9, some (.tup []), some (.int 1), none, none, none, none, none] [T ns i6 r6 s6] := by
    simp [q7]
  obtain ⟨m8, i8, r8, s8, t8, m80, m81, n8⟩ := next_ok (ns := ns) (many := 3) [] t6 (by decide)
  rw [List.nil_append, List.nil_append] at n8
  obtain ⟨x12, f8⟩ := large_loop (some (.rol (ns.map D.int))) (some (.ref 0 0)) (some v) (some (.str (tx a))) (some (.str (tx g))) (some (.str (tx b))) x6 x7 x8 x9 (some (.tup [])) [T ns i8 r8 s8] (rngD 0 (39 + m8).toNat) 1 none
  rw [rngD_len] at f8
  obtain ⟨k, k39, hk⟩ : ∃ k : Nat, k ≤ 41 ∧ (39 + m8).toNat = k := ⟨_, by omega, rfl⟩
  rw [hk, Int.one_mul] at f8
  have b8 : -16000000 ≤ 39 + m8 ∧ 39 + m8 ≤ 16000000 := by omega
  have e8 : q8 [some (.rol (ns.map D.int)), some (.ref 0 0), some v, some (.str (tx a)), some (.str (tx g)), some (.str (tx b)), x6, x7, x8, x9, some (.tup []), some (.int 1), none, none, none, none, none] [T ns i6 r6 s6] = .nx [some (.rol (ns.map D.int)), some (.ref 0 0), some v, some (.str (tx a)), some (.str (tx g)), some (.str (tx b)), x6, x7, x8, x9, some (.tup []), some (.int (10 ^ k)), x12, none, none, none, none] [T ns i8 r8 s8] := by
    simp only [q8]
    rw [← hk] at f8 ⊢
    simp [n8, b8, f8]
  obtain ⟨m9, i9, r9, s9, t9, m90, m91, n9⟩ := next_ok (ns := ns) (many := 2) [] t8 (by decide)
  rw [List.nil_append, List.nil_append] at n9
  have e9 : q9 [some (.rol (ns.map D.int)), some (.ref 0 0), some v, some (.str (tx a)), some (.str (tx g)), some (.str (tx b)), x6, x7, x8, x9, some (.tup []), some (.int (10 ^ k)), x12, none, none, none, none] [T ns i8 r8 s8] = .nx [some (.rol (ns.map D.int)), some (.ref 0 0), some v, some (.str (tx a)), some (.str (tx g)), some (.str (tx b)), x6, x7, x8, x9, some (.tup []), some (.int (10 ^ k - m9)), x12, none, none, none, none] [T ns i9 r9 s9] := by
    simp [q9, n9]
  have hL : ((10 : Int) ^ k - m9).natAbs ≤ 10 ^ 42 := by
    have h1 : (10 : Nat) ^ k ≤ 10 ^ 41 := Nat.pow_le_pow_right (by decide) k39
    have h2 : 0 < (10 : Nat) ^ k := Nat.pow_pos (by decide)
    have h3 : ((10 : Int) ^ k) = ((10 ^ k : Nat) : Int) := by simp
    have h4 : (10 : Nat) ^ 41 ≤ 10 ^ 42 := by decide
    rw [h3]; omega
  generalize (10 : Int) ^ k - m9 = L at e9 hL
  obtain ⟨m10, i10, r10, s10, t10, m100, m101, n10⟩ := next_ok (ns := ns) (many := 4) [] t9 (by decide)
  rw [List.nil_append, List.nil_append] at n10
  obtain ⟨w, y12, i11, r11, s11, hw, t11, f10⟩ := deep_loop (ns := ns) (some (.rol (ns.map D.int))) (some v) (some (.str (tx a))) (some (.str (tx g))) (some (.str (tx b))) x6 x7 x8 x9 (some (.int L)) (rngD 0 (18 + m10).toNat) 0 (.tup []) x12 i10 r10 s10 rfl t10
  rw [rngD_len] at hw
  have b10 : -16000000 ≤ 18 + m10 ∧ 18 + m10 ≤ 16000000 := by omega
  have e10 : q10 [some (.rol (ns.map D.int)), some (.ref 0 0), some v, some (.str (tx a)), some (.str (tx g)), some (.str (tx b)), x6, x7, x8, x9, some (.tup []), some (.int L), x12, none, none, none, none] [T ns i9 r9 s9] = .nx [some (.rol (ns.map D.int)), some (.ref 0 0), some v, some (.str (tx a)), some (.str (tx g)), some (.str (tx b)), x6, x7, x8, x9, some w, some (.int L), y12, none, none, none, none] [T ns i11 r11 s11] := by
    simp only [q10]
    simp [n10, b10, f10]
  obtain ⟨x13, x14, e11⟩ := ones_ok (k := 0 + (18 + m10).toNat) (by omega) hw hL (some (.rol (ns.map D.int))) (some (.ref 0 0)) (some v) (some (.str (tx a))) (some (.str (tx g))) (some (.str (tx b))) x6 x7 x8 x9 y12 [T ns i11 r11 s11]
  have e12 : q12 [some (.rol (ns.map D.int)), some (.ref 0 0), some v, some (.str (tx a)), some (.str (tx g)), some (.str (tx b)), x6, x7, x8, x9, some w, some (.int L), y12, x13, x14, none, none] [T ns i11 r11 s11] = .nx [some (.rol (ns.map D.int)), some (.ref 0 0), some v, some (.str (tx a)), some (.str (tx g)), some (.str (tx b)), x6, x7, x8, x9, some w, some (.int L), y12, x13, x14, some (.lst [.int 1, .str (tx [97]), .non, .bl true, .tup [], .tup [.str (tx [97]), .tup [.int 1, .non]], .lst [.int 1], .tup [.str (tx [97]), .lst [.int 2]], .box (.dK [.inr (tx [97])]) [.int 1], .tup [.non, .lst []]]), none] [T ns i11 r11 s11] := by
    simp only [q12, lits]
    simp [mkD, putKs, putA, hasK]
  obtain ⟨u, hu, i13, r13, s13, t13, e13⟩ := word_ok (ns := ns) (some (.rol (ns.map D.int))) (some v) (some (.str (tx a))) (some (.str (tx g))) (some (.str (tx b))) x6 x7 x8 x9 (some w) (some (.int L)) y12 x13 x14 (some (.lst [.int 1, .str (tx [97]), .non, .bl true, .tup [], .tup [.str (tx [97]), .tup [.int 1, .non]], .lst [.int 1], .tup [.str (tx [97]), .lst [.int 2]], .box (.dK [.inr (tx [97])]) [.int 1], .tup [.non, .lst []]])) t11
  have e14 := last_ok u hu (some (.rol (ns.map D.int))) (some (.ref 0 0)) (some v) (some (.str (tx a))) (some (.str (tx g))) (some (.str (tx b))) x6 x7 x8 x9 (some w) (some (.int L)) y12 x13 x14 [T ns i13 r13 s13]
  have run : c_law [some (.rol (ns.map D.int)), none, none, none, none, none, none, none, none, none, none, none, none, none, none, none, none] [[]] = .ret (.bl true) [T ns i13 r13 s13] := by
    rw [c_law_eq]
    simp only [cSeq_eq, e1, e2, e3, e4, e5, e6, e7, e8, e9, e10, e11, e12, e13, e14, RSt.andThen_nx]
  show runF 17 c_law _ _ = _
  rw [runF_eq]
  simp only [List.map_cons, List.map_nil, List.length_cons, List.length_nil, List.replicate, List.cons_append, List.nil_append, Nat.reduceAdd, Nat.reduceSub, run]
  exact leave_bl _ _ _
end K02

namespace K02
open MP PySem PySem.Spec PyProof.Rows L2
def topS (i : Nat) : Stmt := PySem.Challenge.pw_downtogates_k02_whole_values_as_texts.main.body.getD i (.Pass ⟨0, 0, 0, 0⟩)
abbrev s_is_shown_at : Stmt := topS 9
abbrev N_is_shown_at : List Str := ["value", "deep", "one"]
theorem sc_is_shown_at : FnScope N_is_shown_at ["value", "deep"] (defScope s_is_shown_at) := ⟨rfl, rfl, rfl, by decide +kernel, rfl, by decide +kernel, by decide +kernel⟩
abbrev s_is_shown : Stmt := topS 8
abbrev N_is_shown : List Str := ["value"]
theorem sc_is_shown : FnScope N_is_shown ["value"] (defScope s_is_shown) := ⟨rfl, rfl, rfl, by decide +kernel, rfl, by decide +kernel, by decide +kernel⟩
abbrev s_quoted : Stmt := topS 11
abbrev N_quoted : List Str := ["text", "found", "sign"]
theorem sc_quoted : FnScope N_quoted ["text"] (defScope s_quoted) := ⟨rfl, rfl, rfl, by decide +kernel, rfl, by decide +kernel, by decide +kernel⟩
abbrev s_show : Stmt := topS 10
abbrev N_show : List Str := ["value", "one"]
theorem sc_show : FnScope N_show ["value"] (defScope s_show) := ⟨rfl, rfl, rfl, by decide +kernel, rfl, by decide +kernel, by decide +kernel⟩
abbrev s_skipped : Stmt := topS 13
abbrev N_skipped : List Str := ["text", "at"]
theorem sc_skipped : FnScope N_skipped ["text", "at"] (defScope s_skipped) := ⟨rfl, rfl, rfl, by decide +kernel, rfl, by decide +kernel, by decide +kernel⟩
abbrev s_quote_at : Stmt := topS 16
abbrev N_quote_at : List Str := ["text", "at", "found", "sign"]
theorem sc_quote_at : FnScope N_quote_at ["text", "at"] (defScope s_quote_at) := ⟨rfl, rfl, rfl, by decide +kernel, rfl, by decide +kernel, by decide +kernel⟩
abbrev s_integer_at : Stmt := topS 17
abbrev N_integer_at : List Str := ["text", "at", "end", "start"]
theorem sc_integer_at : FnScope N_integer_at ["text", "at"] (defScope s_integer_at) := ⟨rfl, rfl, rfl, by decide +kernel, rfl, by decide +kernel, by decide +kernel⟩
abbrev s_value_at : Stmt := topS 14
abbrev N_value_at : List Str := ["text", "at", "deep", "sign", "end", "word", "value"]
theorem sc_value_at : FnScope N_value_at ["text", "at", "deep"] (defScope s_value_at) := ⟨rfl, rfl, rfl, by decide +kernel, rfl, by decide +kernel, by decide +kernel⟩
abbrev s_tuple_at : Stmt := topS 15
abbrev N_tuple_at : List Str := ["text", "at", "deep", "found", "value"]
theorem sc_tuple_at : FnScope N_tuple_at ["text", "at", "deep"] (defScope s_tuple_at) := ⟨rfl, rfl, rfl, by decide +kernel, rfl, by decide +kernel, by decide +kernel⟩
abbrev s_read_shown : Stmt := topS 12
abbrev N_read_shown : List Str := ["text", "value", "at"]
theorem sc_read_shown : FnScope N_read_shown ["text"] (defScope s_read_shown) := ⟨rfl, rfl, rfl, by decide +kernel, rfl, by decide +kernel, by decide +kernel⟩
abbrev s__law_next : Stmt := topS 19
abbrev N__law_next : List Str := ["tape", "many", "rest", "cell"]
theorem sc__law_next : FnScope N__law_next ["tape", "many"] (defScope s__law_next) := ⟨rfl, rfl, rfl, by decide +kernel, rfl, by decide +kernel, by decide +kernel⟩
abbrev s__law_same : Stmt := topS 20
abbrev N__law_same : List Str := ["told", "due", "k"]
theorem sc__law_same : FnScope N__law_same ["told", "due"] (defScope s__law_same) := ⟨rfl, rfl, rfl, by decide +kernel, rfl, by decide +kernel, by decide +kernel⟩
abbrev s__law_draw : Stmt := topS 21
abbrev N__law_draw : List Str := ["tape", "deep", "k"]
theorem sc__law_draw : FnScope N__law_draw ["tape", "deep"] (defScope s__law_draw) := ⟨rfl, rfl, rfl, by decide +kernel, rfl, by decide +kernel, by decide +kernel⟩
abbrev s__law_quoted : Stmt := topS 22
abbrev N__law_quoted : List Str := ["text", "sign"]
theorem sc__law_quoted : FnScope N__law_quoted ["text"] (defScope s__law_quoted) := ⟨rfl, rfl, rfl, by decide +kernel, rfl, by decide +kernel, by decide +kernel⟩
abbrev s__law_show : Stmt := topS 23
abbrev N__law_show : List Str := ["value", "gap", "one"]
theorem sc__law_show : FnScope N__law_show ["value", "gap"] (defScope s__law_show) := ⟨rfl, rfl, rfl, by decide +kernel, rfl, by decide +kernel, by decide +kernel⟩
abbrev s__law_skip : Stmt := topS 24
abbrev N__law_skip : List Str := ["text", "at"]
theorem sc__law_skip : FnScope N__law_skip ["text", "at"] (defScope s__law_skip) := ⟨rfl, rfl, rfl, by decide +kernel, rfl, by decide +kernel, by decide +kernel⟩
abbrev s__law_read : Stmt := topS 25
abbrev N__law_read : List Str := ["text", "at", "deep", "sign", "found", "told", "pair", "end"]
theorem sc__law_read : FnScope N__law_read ["text", "at", "deep"] (defScope s__law_read) := ⟨rfl, rfl, rfl, by decide +kernel, rfl, by decide +kernel, by decide +kernel⟩
abbrev s__law_whole : Stmt := topS 26
abbrev N__law_whole : List Str := ["text", "told"]
theorem sc__law_whole : FnScope N__law_whole ["text"] (defScope s__law_whole) := ⟨rfl, rfl, rfl, by decide +kernel, rfl, by decide +kernel, by decide +kernel⟩
abbrev s__law_asked : Stmt := topS 27
abbrev N__law_asked : List Str := ["text", "e"]
theorem sc__law_asked : FnScope N__law_asked ["text"] (defScope s__law_asked) := ⟨rfl, rfl, rfl, by decide +kernel, rfl, by decide +kernel, by decide +kernel⟩
abbrev s_law : Stmt := topS 28
abbrev N_law : List Str := ["script", "tape", "value", "text", "gap", "loose", "turn", "at", "sign", "bent", "deep", "large", "k", "one", "shown", "odd", "word"]
theorem sc_law : FnScope N_law ["script"] (defScope s_law) := ⟨rfl, rfl, rfl, by decide +kernel, rfl, by decide +kernel, by decide +kernel⟩
abbrev es_GateError : Stmt := (clsBody (topS 1)).getD 0 (.Pass ⟨0, 0, 0, 0⟩)
abbrev es_InvalidText : Stmt := (clsBody (topS 2)).getD 0 (.Pass ⟨0, 0, 0, 0⟩)
structure Tx (P : Program) (w : World) (K : PySem.W.Frag) (mg : Str → Option Value) : Prop where
  n_abs : mg "abs" = none
  n_all : mg "all" = none
  n_bool : mg "bool" = none
  n_int : mg "int" = none
  n_isinstance : mg "isinstance" = none
  n_len : mg "len" = none
  n_list : mg "list" = none
  n_range : mg "range" = none
  n_str : mg "str" = none
  n_tuple : mg "tuple" = none
  k_LARGEST : ConOk K mg "LARGEST" (.int 10000000000000000000000000000000000000000)
  k_MOST_DIGITS : ConOk K mg "MOST_DIGITS" (.int 40)
  k_MOST_NESTED : ConOk K mg "MOST_NESTED" (.int 20)
  t_SHORT : TabOk K w mg "SHORT" t_SHORT
  xf : XfOk K mg errs
  sub : SubOk K mg errs subE
  e_GateError : ∃ C, mg "GateError" = some (.ref C) ∧ MkE P w K mg C "GateError"
  e_InvalidText : ∃ C, mg "InvalidText" = some (.ref C) ∧ MkE P w K mg C "InvalidText"
  f_is_shown_at : ∃ f fd, mg "is_shown_at" = some (.ref f) ∧ Fun K "is_shown_at" "is_shown_at" s_is_shown_at f fd ∧ Binds K fd ["value", "deep"] []
  f_is_shown : ∃ f fd, mg "is_shown" = some (.ref f) ∧ Fun K "is_shown" "is_shown" s_is_shown f fd ∧ Binds K fd ["value"] []
  f_quoted : ∃ f fd, mg "quoted" = some (.ref f) ∧ Fun K "quoted" "quoted" s_quoted f fd ∧ Binds K fd ["text"] []
  f_show : ∃ f fd, mg "show" = some (.ref f) ∧ Fun K "show" "show" s_show f fd ∧ Binds K fd ["value"] []
  f_skipped : ∃ f fd, mg "skipped" = some (.ref f) ∧ Fun K "skipped" "skipped" s_skipped f fd ∧ Binds K fd ["text", "at"] []
  f_quote_at : ∃ f fd, mg "quote_at" = some (.ref f) ∧ Fun K "quote_at" "quote_at" s_quote_at f fd ∧ Binds K fd ["text", "at"] []
  f_integer_at : ∃ f fd, mg "integer_at" = some (.ref f) ∧ Fun K "integer_at" "integer_at" s_integer_at f fd ∧ Binds K fd ["text", "at"] []
  f_value_at : ∃ f fd, mg "value_at" = some (.ref f) ∧ Fun K "value_at" "value_at" s_value_at f fd ∧ Binds K fd ["text", "at", "deep"] []
  f_tuple_at : ∃ f fd, mg "tuple_at" = some (.ref f) ∧ Fun K "tuple_at" "tuple_at" s_tuple_at f fd ∧ Binds K fd ["text", "at", "deep"] []
  f_read_shown : ∃ f fd, mg "read_shown" = some (.ref f) ∧ Fun K "read_shown" "read_shown" s_read_shown f fd ∧ Binds K fd ["text"] []
  f__law_next : ∃ f fd, mg "_law_next" = some (.ref f) ∧ Fun K "_law_next" "_law_next" s__law_next f fd ∧ Binds K fd ["tape", "many"] []
  f__law_same : ∃ f fd, mg "_law_same" = some (.ref f) ∧ Fun K "_law_same" "_law_same" s__law_same f fd ∧ Binds K fd ["told", "due"] []
  f__law_draw : ∃ f fd, mg "_law_draw" = some (.ref f) ∧ Fun K "_law_draw" "_law_draw" s__law_draw f fd ∧ Binds K fd ["tape", "deep"] []
  f__law_quoted : ∃ f fd, mg "_law_quoted" = some (.ref f) ∧ Fun K "_law_quoted" "_law_quoted" s__law_quoted f fd ∧ Binds K fd ["text"] []
  f__law_show : ∃ f fd, mg "_law_show" = some (.ref f) ∧ Fun K "_law_show" "_law_show" s__law_show f fd ∧ Binds K fd ["value", "gap"] []
  f__law_skip : ∃ f fd, mg "_law_skip" = some (.ref f) ∧ Fun K "_law_skip" "_law_skip" s__law_skip f fd ∧ Binds K fd ["text", "at"] []
  f__law_read : ∃ f fd, mg "_law_read" = some (.ref f) ∧ Fun K "_law_read" "_law_read" s__law_read f fd ∧ Binds K fd ["text", "at", "deep"] []
  f__law_whole : ∃ f fd, mg "_law_whole" = some (.ref f) ∧ Fun K "_law_whole" "_law_whole" s__law_whole f fd ∧ Binds K fd ["text"] []
  f__law_asked : ∃ f fd, mg "_law_asked" = some (.ref f) ∧ Fun K "_law_asked" "_law_asked" s__law_asked f fd ∧ Binds K fd ["text"] []
section
variable {P : Program} {w : World} {K : PySem.W.Frag} {mg : Str → Option Value} {base : Heap}
theorem fm_is_shown_at (T : Tx P w K mg) (k : Nat) : ∀ {f : Addr} {fd : FuncData} (F : Fun K "is_shown_at" "is_shown_at" s_is_shown_at f fd), FM P w K mg base (0 + k) f fd ["value", "deep"] (m_is_shown_at k) := by
  induction k with
  | zero => exact fun F => fm_bad F
  | succ k ih =>
    intro f fd F
    obtain ⟨f_is_shown_at, fd_is_shown_at, g_is_shown_at, F_is_shown_at, b_is_shown_at⟩ := T.f_is_shown_at
    have C_is_shown_at := ih F_is_shown_at
    exact fm_of F sc_is_shown_at fun cdv A outer s H E hc => (mss_cons (ms_if (mt_e (me_callB ks_isi rfl T.n_isinstance (by decide +kernel) (ma_cons (me_v 0) (ma_cons (me_ty rfl T.n_tuple (by decide +kernel)) ma_nil)))) (mss_one (ms_ret (me_and (me_cmp os_ltA (me_v 1) (me_con T.k_MOST_NESTED rfl) (nomark _)) (me_one (me_callB (ks_all hc.calm) rfl T.n_all (by decide +kernel) (ma_cons (me_lc (own := [("one", 2)]) hc.calm sc_is_shown_at.nd (mi_it (me_v 0)) (blkOk_by (N := N_is_shown_at) (sc := defScope s_is_shown_at) (by decide +kernel)) ⟨_, gs_name 2, fun _ _ _ _ _ => pg_name (i := 2) sc_is_shown_at.nd rfl (Or.inl rfl)⟩ (fun _ _ _ _ _ => mts_nil) (fun _ _ _ _ _ => (me_call C_is_shown_at takes0 (hc.room.mono (Nat.le_refl _)) rfl g_is_shown_at b_is_shown_at (ma_cons (me_v 2) (ma_cons (me_op os_addA (me_v 1) me_int) ma_nil))))) ma_nil)))))) mss_nil)
    (mss_cons (ms_if (mt_e (me_callB ks_isi rfl T.n_isinstance (by decide +kernel) (ma_cons (me_v 0) (ma_cons (me_ty rfl T.n_int (by decide +kernel)) ma_nil)))) (mss_one (ms_ret (me_chain os_ltA os_ltA (me_un us_neg (me_con T.k_LARGEST rfl)) (me_v 0) (me_con T.k_LARGEST rfl)))) mss_nil)
    (mss_one (ms_ret (me_or (me_cmp os_isN (me_v 0) me_non (nomark _)) (me_one (me_callB ks_isi rfl T.n_isinstance (by decide +kernel) (ma_cons (me_v 0) (ma_cons (me_ty rfl T.n_str (by decide +kernel)) ma_nil)))))))))
theorem fm_is_shown (T : Tx P w K mg) {f : Addr} {fd : FuncData} (F : Fun K "is_shown" "is_shown" s_is_shown f fd) : FM P w K mg base 27 f fd ["value"] m_is_shown := by
  obtain ⟨f_is_shown_at, fd_is_shown_at, g_is_shown_at, F_is_shown_at, b_is_shown_at⟩ := T.f_is_shown_at
  have C_is_shown_at := (fm_is_shown_at T 26 F_is_shown_at : FM P w K mg base _ _ _ _ _)
  exact fm_of F sc_is_shown fun cdv A outer s H E hc => (mss_one (ms_ret (me_call C_is_shown_at hc.tk (hc.room.mono (by decide)) rfl g_is_shown_at b_is_shown_at (ma_cons (me_v 0) (ma_cons me_int ma_nil)))))
theorem fm_quoted (T : Tx P w K mg) {f : Addr} {fd : FuncData} (F : Fun K "quoted" "quoted" s_quoted f fd) : FM P w K mg base 1 f fd ["text"] m_quoted := by
  exact fm_of F sc_quoted fun cdv A outer s H E hc => (mss_cons (ms_set 1 sc_quoted.nd rfl (Or.inl rfl) me_str)
    (mss_cons (ms_forA hc.po hc.calm (me_v 0) (mg_name 2 sc_quoted.nd rfl (Or.inl rfl)) (mss_one (ms_aug 1 osi_addA sc_quoted.nd rfl (Or.inl rfl) (me_get2 hc.room.units (me_disp (mps_cons me_str me_str (mps_cons me_str me_str (mps_cons me_str me_str (mps_cons me_str me_str mps_nil))))) (me_v 2) (me_v 2)))))
    (mss_one (ms_ret (me_op os_addA (me_op os_addA me_str (me_v 1)) me_str)))))
theorem fm_show (T : Tx P w K mg) (k : Nat) : ∀ {f : Addr} {fd : FuncData} (F : Fun K "show" "show" s_show f fd), FM P w K mg base (1 + k) f fd ["value"] (m_show k) := by
  induction k with
  | zero => exact fun F => fm_bad F
  | succ k ih =>
    intro f fd F
    obtain ⟨f_quoted, fd_quoted, g_quoted, F_quoted, b_quoted⟩ := T.f_quoted
    have C_quoted := (fm_quoted T F_quoted : FM P w K mg base _ _ _ _ _)
    obtain ⟨f_show, fd_show, g_show, F_show, b_show⟩ := T.f_show
    have C_show := ih F_show
    exact fm_of F sc_show fun cdv A outer s H E hc => (mss_cons (ms_if (mt_e (me_callB ks_isi rfl T.n_isinstance (by decide +kernel) (ma_cons (me_v 0) (ma_cons (me_ty rfl T.n_tuple (by decide +kernel)) ma_nil)))) (mss_one (ms_ret (me_op os_addA (me_op os_addA me_str (me_m km_join me_str (ma_cons (me_lc (own := [("one", 1)]) hc.calm sc_show.nd (mi_it (me_v 0)) (blkOk_by (N := N_show) (sc := defScope s_show) (by decide +kernel)) ⟨_, gs_name 1, fun _ _ _ _ _ => pg_name (i := 1) sc_show.nd rfl (Or.inl rfl)⟩ (fun _ _ _ _ _ => mts_nil) (fun _ _ _ _ _ => (me_call C_show takes0 (hc.room.mono (Nat.le_refl _)) rfl g_show b_show (ma_cons (me_v 1) ma_nil)))) ma_nil))) me_str))) mss_nil)
    (mss_cons (ms_if (mt_e (me_callB ks_isi rfl T.n_isinstance (by decide +kernel) (ma_cons (me_v 0) (ma_cons (me_ty rfl T.n_str (by decide +kernel)) ma_nil)))) (mss_one (ms_ret (me_call C_quoted hc.tk (hc.room.mono (Nat.le_trans (by decide : 1 ≤ 1) (Nat.le_add_right _ k))) rfl g_quoted b_quoted (ma_cons (me_v 0) ma_nil)))) mss_nil)
    (mss_cons (ms_if (mt_cmp os_isN (me_v 0) me_non (nomark _)) (mss_one (ms_ret me_str)) mss_nil)
    (mss_cons (ms_if (mt_e (me_callB ks_isi rfl T.n_isinstance (by decide +kernel) (ma_cons (me_v 0) (ma_cons (me_ty rfl T.n_bool (by decide +kernel)) ma_nil)))) (mss_one (ms_ret (me_if (mt_e (me_v 0)) me_str me_str))) mss_nil)
    (mss_one (ms_ret (me_callTy ks_str rfl T.n_str (by decide +kernel) (ma_cons (me_v 0) ma_nil))))))))
theorem fm_skipped (T : Tx P w K mg) {f : Addr} {fd : FuncData} (F : Fun K "skipped" "skipped" s_skipped f fd) : FM P w K mg base 1 f fd ["text", "at"] m_skipped := by
  exact fm_of F sc_skipped fun cdv A outer s H E hc => (mss_cons (ms_while hc.po (MW.mt (mw_and (mt_cmp os_ltA (me_v 1) (me_callB ks_lenA rfl T.n_len (by decide +kernel) (ma_cons (me_v 0) ma_nil)) (nomark _)) (mw_and1 (mt_mem hc.room.units65 (me_item hc.room.units (me_v 0) (me_v 1)) me_str rfl)))) (mss_one (ms_aug 1 osi_addA sc_skipped.nd rfl (Or.inl rfl) me_int)))
    (mss_one (ms_ret (me_v 1))))
theorem fm_quote_at (T : Tx P w K mg) {f : Addr} {fd : FuncData} (F : Fun K "quote_at" "quote_at" s_quote_at f fd) : FM P w K mg base 7 f fd ["text", "at"] m_quote_at := by
  obtain ⟨f_skipped, fd_skipped, g_skipped, F_skipped, b_skipped⟩ := T.f_skipped
  have C_skipped := (fm_skipped T F_skipped : FM P w K mg base _ _ _ _ _)
  obtain ⟨C_InvalidText, mC_InvalidText, E_InvalidText⟩ := T.e_InvalidText
  exact fm_of F sc_quote_at fun cdv A outer s H E hc => (mss_cons (ms_set 2 sc_quote_at.nd rfl (Or.inl rfl) me_str)
    (mss_cons (ms_while hc.po (mt_cmp (os_neA hc.room.units) (me_sl (me_v 0) (mo_some (me_v 1)) (mo_some (me_op os_addA (me_v 1) me_int))) me_str (nomark _)) (mss_cons (ms_set 3 sc_quote_at.nd rfl (Or.inl rfl) (me_sl (me_v 0) (mo_some (me_v 1)) (mo_some (me_op os_addA (me_v 1) me_int))))
    (mss_cons (ms_if (mt_cmp (os_eqA hc.room.units) (me_v 3) me_str (nomark _)) (mss_one (ms_raise hc.calm hc.tk E_InvalidText (hc.room.mono (by decide)) rfl mC_InvalidText (me_v 1))) mss_nil)
    (mss_cons (ms_if (mt_cmp (os_eqA hc.room.units) (me_v 3) me_str (nomark _)) (mss_cons (ms_set 3 sc_quote_at.nd rfl (Or.inl rfl) (me_tg2 T.t_SHORT rfl (me_sl (me_v 0) (mo_some (me_op os_addA (me_v 1) me_int)) (mo_some (me_op os_addA (me_v 1) me_int))) me_str))
    (mss_cons (ms_if (mt_cmp (os_eqA hc.room.units) (me_v 3) me_str (nomark _)) (mss_one (ms_raise hc.calm hc.tk E_InvalidText (hc.room.mono (by decide)) rfl mC_InvalidText (me_v 1))) mss_nil)
    (mss_one (ms_aug 1 osi_addA sc_quote_at.nd rfl (Or.inl rfl) me_int)))) mss_nil)
    (mss_cons (ms_aug 2 osi_addA sc_quote_at.nd rfl (Or.inl rfl) (me_v 3))
    (mss_one (ms_aug 1 osi_addA sc_quote_at.nd rfl (Or.inl rfl) me_int)))))))
    (mss_one (ms_ret (me_tup (ma_cons (me_v 2) (ma_cons (me_call C_skipped hc.tk (hc.room.mono (by decide)) rfl g_skipped b_skipped (ma_cons (me_v 0) (ma_cons (me_op os_addA (me_v 1) me_int) ma_nil))) ma_nil)))))))
theorem fm_integer_at (T : Tx P w K mg) {f : Addr} {fd : FuncData} (F : Fun K "integer_at" "integer_at" s_integer_at f fd) : FM P w K mg base 7 f fd ["text", "at"] m_integer_at := by
  obtain ⟨f_skipped, fd_skipped, g_skipped, F_skipped, b_skipped⟩ := T.f_skipped
  have C_skipped := (fm_skipped T F_skipped : FM P w K mg base _ _ _ _ _)
  obtain ⟨C_InvalidText, mC_InvalidText, E_InvalidText⟩ := T.e_InvalidText
  exact fm_of F sc_integer_at fun cdv A outer s H E hc => (mss_cons (ms_set 2 sc_integer_at.nd rfl (Or.inl rfl) (me_op os_addA (me_v 1) (me_callTy ks_intA rfl T.n_int (by decide +kernel) (ma_cons (me_cmp (os_eqA hc.room.units) (me_item hc.room.units (me_v 0) (me_v 1)) me_str (nomark _)) ma_nil))))
    (mss_cons (ms_set 3 sc_integer_at.nd rfl (Or.inl rfl) (me_v 2))
    (mss_cons (ms_while hc.po (mt_chain os_leA os_leA me_str (me_sl (me_v 0) (mo_some (me_v 2)) (mo_some (me_op os_addA (me_v 2) me_int))) me_str) (mss_one (ms_aug 2 osi_addA sc_integer_at.nd rfl (Or.inl rfl) me_int)))
    (mss_cons (ms_if (mt_cmp (os_eqA hc.room.units) (me_v 2) (me_v 3) (nomark _)) (mss_one (ms_raise hc.calm hc.tk E_InvalidText (hc.room.mono (by decide)) rfl mC_InvalidText (me_v 2))) mss_nil)
    (mss_cons (ms_if (mt_cmp os_gtA (me_v 2) (me_op os_addA (me_v 3) (me_con T.k_MOST_DIGITS rfl)) (nomark _)) (mss_one (ms_raise hc.calm hc.tk E_InvalidText (hc.room.mono (by decide)) rfl mC_InvalidText (me_v 1))) mss_nil)
    (mss_one (ms_ret (me_tup (ma_cons (me_callTy ks_intA rfl T.n_int (by decide +kernel) (ma_cons (me_sl (me_v 0) (mo_some (me_v 1)) (mo_some (me_v 2))) ma_nil)) (ma_cons (me_call C_skipped hc.tk (hc.room.mono (by decide)) rfl g_skipped b_skipped (ma_cons (me_v 0) (ma_cons (me_v 2) ma_nil))) ma_nil))))))))))
theorem fms_value_at (T : Tx P w K mg) (k : Nat) : (∀ {f : Addr} {fd : FuncData}, Fun K "value_at" "value_at" s_value_at f fd → FM P w K mg base (7 + k) f fd ["text", "at", "deep"] (M_value_at k 0)) ∧ (∀ {f : Addr} {fd : FuncData}, Fun K "tuple_at" "tuple_at" s_tuple_at f fd → FM P w K mg base (7 + k) f fd ["text", "at", "deep"] (M_value_at k 1)) := by
  induction k with
  | zero => exact ⟨fun F => fm_bad F, fun F => fm_bad F⟩
  | succ k ih =>
    obtain ⟨ih_value_at, ih_tuple_at⟩ := ih
    refine ⟨?_, ?_⟩
    · intro f fd F
      obtain ⟨f_tuple_at, fd_tuple_at, g_tuple_at, F_tuple_at, b_tuple_at⟩ := T.f_tuple_at
      obtain ⟨f_quote_at, fd_quote_at, g_quote_at, F_quote_at, b_quote_at⟩ := T.f_quote_at
      have C_quote_at := (fm_quote_at T F_quote_at : FM P w K mg base _ _ _ _ _)
      obtain ⟨f_integer_at, fd_integer_at, g_integer_at, F_integer_at, b_integer_at⟩ := T.f_integer_at
      have C_integer_at := (fm_integer_at T F_integer_at : FM P w K mg base _ _ _ _ _)
      obtain ⟨f_skipped, fd_skipped, g_skipped, F_skipped, b_skipped⟩ := T.f_skipped
      have C_skipped := (fm_skipped T F_skipped : FM P w K mg base _ _ _ _ _)
      obtain ⟨C_InvalidText, mC_InvalidText, E_InvalidText⟩ := T.e_InvalidText
      have C_tuple_at := ih_tuple_at F_tuple_at
      exact fm_of F sc_value_at fun cdv A outer s H E hc => (mss_cons (ms_set 3 sc_value_at.nd rfl (Or.inl rfl) (me_sl (me_v 0) (mo_some (me_v 1)) (mo_some (me_op os_addA (me_v 1) me_int))))
    (mss_cons (ms_if (mt_cmp (os_eqA hc.room.units) (me_v 3) me_str (nomark _)) (mss_one (ms_ret (me_call C_tuple_at hc.tk (hc.room.mono (Nat.le_refl _)) rfl g_tuple_at b_tuple_at (ma_cons (me_v 0) (ma_cons (me_v 1) (ma_cons (me_v 2) ma_nil)))))) mss_nil)
    (mss_cons (ms_if (mt_cmp (os_eqA hc.room.units) (me_v 3) me_str (nomark _)) (mss_one (ms_ret (me_call C_quote_at hc.tk (hc.room.mono (Nat.le_trans (by decide : 7 ≤ 7) (Nat.le_add_right _ k))) rfl g_quote_at b_quote_at (ma_cons (me_v 0) (ma_cons (me_op os_addA (me_v 1) me_int) ma_nil))))) mss_nil)
    (mss_cons (ms_if (MW.mt (mw_or (mt_cmp (os_eqA hc.room.units) (me_v 3) me_str (nomark _)) (mw_or1 (mt_chain os_leA os_leA me_str (me_v 3) me_str)))) (mss_one (ms_ret (me_call C_integer_at hc.tk (hc.room.mono (Nat.le_trans (by decide : 7 ≤ 7) (Nat.le_add_right _ k))) rfl g_integer_at b_integer_at (ma_cons (me_v 0) (ma_cons (me_v 1) ma_nil))))) mss_nil)
    (mss_cons (ms_set 4 sc_value_at.nd rfl (Or.inl rfl) (me_v 1))
    (mss_cons (ms_while hc.po (mt_chain os_leA os_leA me_str (me_sl (me_v 0) (mo_some (me_v 4)) (mo_some (me_op os_addA (me_v 4) me_int))) me_str) (mss_one (ms_aug 4 osi_addA sc_value_at.nd rfl (Or.inl rfl) me_int)))
    (mss_cons (ms_forA hc.po hc.calm (me_tup (ma_cons (me_tup (ma_cons me_str (ma_cons me_non ma_nil))) (ma_cons (me_tup (ma_cons me_str (ma_cons me_bl ma_nil))) (ma_cons (me_tup (ma_cons me_str (ma_cons me_bl ma_nil))) ma_nil)))) (mg_tup hc.calm (mgs_cons (mg_name 5 sc_value_at.nd rfl (Or.inl rfl)) (mgs_cons (mg_name 6 sc_value_at.nd rfl (Or.inl rfl)) mgs_nil))) (mss_one (ms_if (mt_cmp (os_eqA hc.room.units) (me_sl (me_v 0) (mo_some (me_v 1)) (mo_some (me_v 4))) (me_v 5) (nomark _)) (mss_one (ms_ret (me_tup (ma_cons (me_v 6) (ma_cons (me_call C_skipped hc.tk (hc.room.mono (Nat.le_trans (by decide : 1 ≤ 7) (Nat.le_add_right _ k))) rfl g_skipped b_skipped (ma_cons (me_v 0) (ma_cons (me_v 4) ma_nil))) ma_nil))))) mss_nil)))
    (mss_one (ms_raise hc.calm hc.tk E_InvalidText (hc.room.mono (Nat.le_trans (by decide : 6 ≤ 7) (Nat.le_add_right _ k))) rfl mC_InvalidText (me_v 1))))))))))
    · intro f fd F
      obtain ⟨f_skipped, fd_skipped, g_skipped, F_skipped, b_skipped⟩ := T.f_skipped
      have C_skipped := (fm_skipped T F_skipped : FM P w K mg base _ _ _ _ _)
      obtain ⟨f_value_at, fd_value_at, g_value_at, F_value_at, b_value_at⟩ := T.f_value_at
      obtain ⟨C_InvalidText, mC_InvalidText, E_InvalidText⟩ := T.e_InvalidText
      have C_value_at := ih_value_at F_value_at
      exact fm_of F sc_tuple_at fun cdv A outer s H E hc => (mss_cons (ms_if (mt_cmp (os_eqA hc.room.units) (me_v 2) (me_con T.k_MOST_NESTED rfl) (nomark _)) (mss_one (ms_raise hc.calm hc.tk E_InvalidText (hc.room.mono (Nat.le_trans (by decide : 6 ≤ 7) (Nat.le_add_right _ k))) rfl mC_InvalidText (me_v 1))) mss_nil)
    (mss_cons (ms_par hc.calm sc_tuple_at.nd rfl rfl (by decide) rfl rfl (ma_cons (me_new 0 ma_nil) (ma_cons (me_call C_skipped hc.tk (hc.room.mono (Nat.le_trans (by decide : 1 ≤ 7) (Nat.le_add_right _ k))) rfl g_skipped b_skipped (ma_cons (me_v 0) (ma_cons (me_op os_addA (me_v 1) me_int) ma_nil))) ma_nil)) (by rfl))
    (mss_cons (ms_while hc.po (mt_cmp (os_neA hc.room.units) (me_sl (me_v 0) (mo_some (me_v 1)) (mo_some (me_op os_addA (me_v 1) me_int))) me_str (nomark _)) (mss_cons (ms_asg (me_call C_value_at hc.tk (hc.room.mono (Nat.le_refl _)) rfl g_value_at b_value_at (ma_cons (me_v 0) (ma_cons (me_v 1) (ma_cons (me_op os_addA (me_v 2) me_int) ma_nil)))) (mg_tup hc.calm (mgs_cons (mg_name 4 sc_tuple_at.nd rfl (Or.inl rfl)) (mgs_cons (mg_name 1 sc_tuple_at.nd rfl (Or.inl rfl)) mgs_nil))))
    (mss_one (ms_expr (me_app (me_v 3) (me_v 4))))))
    (mss_one (ms_ret (me_tup (ma_cons (me_callTy ks_tuple rfl T.n_tuple (by decide +kernel) (ma_cons (me_v 3) ma_nil)) (ma_cons (me_call C_skipped hc.tk (hc.room.mono (Nat.le_trans (by decide : 1 ≤ 7) (Nat.le_add_right _ k))) rfl g_skipped b_skipped (ma_cons (me_v 0) (ma_cons (me_op os_addA (me_v 1) me_int) ma_nil))) ma_nil))))))))

theorem fm_value_at (T : Tx P w K mg) (k : Nat) {f : Addr} {fd : FuncData} (F : Fun K "value_at" "value_at" s_value_at f fd) : FM P w K mg base (7 + k) f fd ["text", "at", "deep"] (m_value_at k) := (fms_value_at T k).1 F
theorem fm_tuple_at (T : Tx P w K mg) (k : Nat) {f : Addr} {fd : FuncData} (F : Fun K "tuple_at" "tuple_at" s_tuple_at f fd) : FM P w K mg base (7 + k) f fd ["text", "at", "deep"] (m_tuple_at k) := (fms_value_at T k).2 F
theorem fm_read_shown (T : Tx P w K mg) {f : Addr} {fd : FuncData} (F : Fun K "read_shown" "read_shown" s_read_shown f fd) : FM P w K mg base 58 f fd ["text"] m_read_shown := by
  obtain ⟨f_value_at, fd_value_at, g_value_at, F_value_at, b_value_at⟩ := T.f_value_at
  have C_value_at := (fm_value_at T 50 F_value_at : FM P w K mg base _ _ _ _ _)
  obtain ⟨f_skipped, fd_skipped, g_skipped, F_skipped, b_skipped⟩ := T.f_skipped
  have C_skipped := (fm_skipped T F_skipped : FM P w K mg base _ _ _ _ _)
  obtain ⟨C_InvalidText, mC_InvalidText, E_InvalidText⟩ := T.e_InvalidText
  exact fm_of F sc_read_shown fun cdv A outer s H E hc => (mss_cons (ms_asg (me_call C_value_at hc.tk (hc.room.mono (by decide)) rfl g_value_at b_value_at (ma_cons (me_v 0) (ma_cons (me_call C_skipped hc.tk (hc.room.mono (by decide)) rfl g_skipped b_skipped (ma_cons (me_v 0) (ma_cons me_int ma_nil))) (ma_cons me_int ma_nil)))) (mg_tup hc.calm (mgs_cons (mg_name 1 sc_read_shown.nd rfl (Or.inl rfl)) (mgs_cons (mg_name 2 sc_read_shown.nd rfl (Or.inl rfl)) mgs_nil))))
    (mss_cons (ms_if (mt_cmp os_ltA (me_v 2) (me_callB ks_lenA rfl T.n_len (by decide +kernel) (ma_cons (me_v 0) ma_nil)) (nomark _)) (mss_one (ms_raise hc.calm hc.tk E_InvalidText (hc.room.mono (by decide)) rfl mC_InvalidText (me_v 2))) mss_nil)
    (mss_one (ms_ret (me_v 1)))))
theorem fm__law_next (T : Tx P w K mg) {f : Addr} {fd : FuncData} (F : Fun K "_law_next" "_law_next" s__law_next f fd) : FM P w K mg base 1 f fd ["tape", "many"] m__law_next := by
  exact fm_of F sc__law_next fun cdv A outer s H E hc => (mss_cons (ms_set 2 sc__law_next.nd rfl (Or.inl rfl) (me_item hc.room.units (me_v 0) me_int))
    (mss_cons (ms_if (mt_cmp (os_eqA hc.room.units) (me_v 2) me_int (nomark _)) (mss_cons (ms_set 3 sc__law_next.nd rfl (Or.inl rfl) me_int)
    (mss_cons (ms_if (mt_cmp os_ltA (me_item hc.room.units (me_v 0) me_int) (me_callB ks_lenA rfl T.n_len (by decide +kernel) (ma_cons (me_item hc.room.units (me_v 0) me_int) ma_nil)) (nomark _)) (mss_cons (ms_set 3 sc__law_next.nd rfl (Or.inl rfl) (me_callB ks_abs rfl T.n_abs (by decide +kernel) (ma_cons (me_callTy ks_intA rfl T.n_int (by decide +kernel) (ma_cons (me_item hc.room.units (me_item hc.room.units (me_v 0) me_int) (me_item hc.room.units (me_v 0) me_int)) ma_nil)) ma_nil)))
    (mss_one (ms_setA hc.room.units (me_op os_addA (me_item hc.room.units (me_v 0) me_int) me_int) (me_v 0) me_int))) mss_nil)
    (mss_cons (ms_set 2 sc__law_next.nd rfl (Or.inl rfl) (me_v 3))
    (mss_one (ms_if (mt_cmp os_ltA (me_v 3) (me_op os_pow me_int me_int) (nomark _)) (mss_cons (ms_setA hc.room.units (me_op os_mod (me_callTy ks_intA rfl T.n_int (by decide +kernel) (ma_cons (me_op os_addA (me_op os_addA (me_op os_mul (me_item hc.room.units (me_v 0) me_int) me_int) (me_op os_mul (me_v 3) me_int)) me_int) ma_nil)) me_int) (me_v 0) me_int)
    (mss_one (ms_ret (me_op os_mod (me_op os_mod (me_callTy ks_intA rfl T.n_int (by decide +kernel) (ma_cons (me_op os_mul (me_callTy ks_intA rfl T.n_int (by decide +kernel) (ma_cons (me_op os_fdiv (me_item hc.room.units (me_v 0) me_int) me_int) ma_nil)) me_int) ma_nil)) me_int) (me_v 1))))) mss_nil))))) mss_nil)
    (mss_cons (ms_setA hc.room.units (me_op os_fdiv (me_v 2) (me_v 1)) (me_v 0) me_int)
    (mss_one (ms_ret (me_op os_mod (me_callTy ks_intA rfl T.n_int (by decide +kernel) (ma_cons (me_v 2) ma_nil)) (me_v 1)))))))
theorem fm__law_same (T : Tx P w K mg) (k : Nat) : ∀ {f : Addr} {fd : FuncData} (F : Fun K "_law_same" "_law_same" s__law_same f fd), FM P w K mg base (0 + k) f fd ["told", "due"] (m__law_same k) := by
  induction k with
  | zero => exact fun F => fm_bad F
  | succ k ih =>
    intro f fd F
    obtain ⟨f__law_same, fd__law_same, g__law_same, F__law_same, b__law_same⟩ := T.f__law_same
    have C__law_same := ih F__law_same
    exact fm_of F sc__law_same fun cdv A outer s H E hc => (mss_cons (ms_if (mt_cmp os_isN (me_v 1) me_non (nomark _)) (mss_one (ms_ret (me_cmp os_isN (me_v 0) me_non (nomark _)))) mss_nil)
    (mss_cons (ms_if (mt_e (me_callB ks_isi rfl T.n_isinstance (by decide +kernel) (ma_cons (me_v 1) (ma_cons (me_ty rfl T.n_bool (by decide +kernel)) ma_nil)))) (mss_one (ms_ret (me_and (me_callB ks_isi rfl T.n_isinstance (by decide +kernel) (ma_cons (me_v 0) (ma_cons (me_ty rfl T.n_bool (by decide +kernel)) ma_nil))) (me_one (me_cmp (os_eqA hc.room.units) (me_v 0) (me_v 1) (nomark _)))))) mss_nil)
    (mss_cons (ms_if (mt_e (me_callB ks_isi rfl T.n_isinstance (by decide +kernel) (ma_cons (me_v 1) (ma_cons (me_ty rfl T.n_int (by decide +kernel)) ma_nil)))) (mss_one (ms_ret (me_and (me_callB ks_isi rfl T.n_isinstance (by decide +kernel) (ma_cons (me_v 0) (ma_cons (me_ty rfl T.n_int (by decide +kernel)) ma_nil))) (me_and (me_not (me_callB ks_isi rfl T.n_isinstance (by decide +kernel) (ma_cons (me_v 0) (ma_cons (me_ty rfl T.n_bool (by decide +kernel)) ma_nil)))) (me_one (me_cmp (os_eqA hc.room.units) (me_v 0) (me_v 1) (nomark _))))))) mss_nil)
    (mss_cons (ms_if (mt_e (me_callB ks_isi rfl T.n_isinstance (by decide +kernel) (ma_cons (me_v 1) (ma_cons (me_ty rfl T.n_str (by decide +kernel)) ma_nil)))) (mss_one (ms_ret (me_and (me_callB ks_isi rfl T.n_isinstance (by decide +kernel) (ma_cons (me_v 0) (ma_cons (me_ty rfl T.n_str (by decide +kernel)) ma_nil))) (me_one (me_cmp (os_eqA hc.room.units) (me_v 0) (me_v 1) (nomark _)))))) mss_nil)
    (mss_cons (ms_if (MW.mt (mw_or (MW.mt (mw_and (mt_e (me_callB ks_isi rfl T.n_isinstance (by decide +kernel) (ma_cons (me_v 1) (ma_cons (me_ty rfl T.n_list (by decide +kernel)) ma_nil)))) (mw_and1 (mt_not (mt_e (me_callB ks_isi rfl T.n_isinstance (by decide +kernel) (ma_cons (me_v 0) (ma_cons (me_ty rfl T.n_list (by decide +kernel)) ma_nil)))))))) (mw_or1 (MW.mt (mw_and (mt_e (me_callB ks_isi rfl T.n_isinstance (by decide +kernel) (ma_cons (me_v 1) (ma_cons (me_ty rfl T.n_tuple (by decide +kernel)) ma_nil)))) (mw_and1 (mt_not (mt_e (me_callB ks_isi rfl T.n_isinstance (by decide +kernel) (ma_cons (me_v 0) (ma_cons (me_ty rfl T.n_tuple (by decide +kernel)) ma_nil))))))))))) (mss_one (ms_ret me_bl)) mss_nil)
    (mss_one (ms_ret (me_and (me_cmp (os_eqA hc.room.units) (me_callB ks_lenA rfl T.n_len (by decide +kernel) (ma_cons (me_v 0) ma_nil)) (me_callB ks_lenA rfl T.n_len (by decide +kernel) (ma_cons (me_v 1) ma_nil)) (nomark _)) (me_one (me_cmp (os_eqA hc.room.units) (me_lc (own := [("k", 2)]) hc.calm sc__law_same.nd (mi_r1 rfl T.n_range (ma_cons (me_callB ks_lenA rfl T.n_len (by decide +kernel) (ma_cons (me_v 1) ma_nil)) ma_nil)) (blkOk_by (N := N__law_same) (sc := defScope s__law_same) (by decide +kernel)) ⟨_, gs_name 2, fun _ _ _ _ _ => pg_name (i := 2) sc__law_same.nd rfl (Or.inl rfl)⟩ (fun _ _ _ _ _ => (mts_one (mt_not (mt_e (me_call C__law_same takes0 (hc.room.mono (Nat.le_refl _)) rfl g__law_same b__law_same (ma_cons (me_item hc.room.units (me_v 0) (me_v 2)) (ma_cons (me_item hc.room.units (me_v 1) (me_v 2)) ma_nil))))))) (fun _ _ _ _ _ => me_int)) (me_lst ma_nil) (nomark _)))))))))))
theorem fm__law_draw (T : Tx P w K mg) (k : Nat) : ∀ {f : Addr} {fd : FuncData} (F : Fun K "_law_draw" "_law_draw" s__law_draw f fd), FM P w K mg base (1 + k) f fd ["tape", "deep"] (m__law_draw k) := by
  induction k with
  | zero => exact fun F => fm_bad F
  | succ k ih =>
    intro f fd F
    obtain ⟨f__law_next, fd__law_next, g__law_next, F__law_next, b__law_next⟩ := T.f__law_next
    have C__law_next := (fm__law_next T F__law_next : FM P w K mg base _ _ _ _ _)
    obtain ⟨f__law_draw, fd__law_draw, g__law_draw, F__law_draw, b__law_draw⟩ := T.f__law_draw
    have C__law_draw := ih F__law_draw
    exact fm_of F sc__law_draw fun cdv A outer s H E hc => (mss_cons (ms_if (MW.mt (mw_and (mt_cmp os_gtA (me_v 1) me_int (nomark _)) (mw_and1 (mt_cmp (os_eqA hc.room.units) (me_call C__law_next hc.tk (hc.room.mono (Nat.le_trans (by decide : 1 ≤ 1) (Nat.le_add_right _ k))) rfl g__law_next b__law_next (ma_cons (me_v 0) (ma_cons me_int ma_nil))) me_int (nomark _))))) (mss_one (ms_ret (me_callTy ks_tuple rfl T.n_tuple (by decide +kernel) (ma_cons (me_lc (own := [("k", 2)]) hc.calm sc__law_draw.nd (mi_r1 rfl T.n_range (ma_cons (me_call C__law_next hc.tk (hc.room.mono (Nat.le_trans (by decide : 1 ≤ 1) (Nat.le_add_right _ k))) rfl g__law_next b__law_next (ma_cons (me_v 0) (ma_cons me_int ma_nil))) ma_nil)) (blkOk_by (N := N__law_draw) (sc := defScope s__law_draw) (by decide +kernel)) ⟨_, gs_name 2, fun _ _ _ _ _ => pg_name (i := 2) sc__law_draw.nd rfl (Or.inl rfl)⟩ (fun _ _ _ _ _ => mts_nil) (fun _ _ _ _ _ => (me_call C__law_draw takes0 (hc.room.mono (Nat.le_refl _)) rfl g__law_draw b__law_draw (ma_cons (me_v 0) (ma_cons (me_op os_sub (me_v 1) me_int) ma_nil))))) ma_nil)))) mss_nil)
    (mss_one (ms_ret (me_item hc.room.units (me_tup (ma_cons (me_op os_sub (me_call C__law_next hc.tk (hc.room.mono (Nat.le_trans (by decide : 1 ≤ 1) (Nat.le_add_right _ k))) rfl g__law_next b__law_next (ma_cons (me_v 0) (ma_cons me_int ma_nil))) me_int) (ma_cons me_str (ma_cons me_str (ma_cons me_str (ma_cons me_non (ma_cons me_bl (ma_cons me_bl (ma_cons me_int ma_nil))))))))) (me_call C__law_next hc.tk (hc.room.mono (Nat.le_trans (by decide : 1 ≤ 1) (Nat.le_add_right _ k))) rfl g__law_next b__law_next (ma_cons (me_v 0) (ma_cons me_int ma_nil)))))))
theorem fm__law_quoted (T : Tx P w K mg) {f : Addr} {fd : FuncData} (F : Fun K "_law_quoted" "_law_quoted" s__law_quoted f fd) : FM P w K mg base 1 f fd ["text"] m__law_quoted := by
  exact fm_of F sc__law_quoted fun cdv A outer s H E hc => (mss_one (ms_ret (me_op os_addA (me_op os_addA me_str (me_m km_join me_str (ma_cons (me_lc (own := [("sign", 1)]) hc.calm sc__law_quoted.nd (mi_it (me_v 0)) (blkOk_by (N := N__law_quoted) (sc := defScope s__law_quoted) (by decide +kernel)) ⟨_, gs_name 1, fun _ _ _ _ _ => pg_name (i := 1) sc__law_quoted.nd rfl (Or.inl rfl)⟩ (fun _ _ _ _ _ => mts_nil) (fun _ _ _ _ _ => (me_get2 hc.room.units (me_disp (mps_cons me_str me_str (mps_cons me_str me_str (mps_cons me_str me_str (mps_cons me_str me_str mps_nil))))) (me_v 1) (me_v 1)))) ma_nil))) me_str)))
theorem fm__law_show (T : Tx P w K mg) (k : Nat) : ∀ {f : Addr} {fd : FuncData} (F : Fun K "_law_show" "_law_show" s__law_show f fd), FM P w K mg base (1 + k) f fd ["value", "gap"] (m__law_show k) := by
  induction k with
  | zero => exact fun F => fm_bad F
  | succ k ih =>
    intro f fd F
    obtain ⟨f__law_quoted, fd__law_quoted, g__law_quoted, F__law_quoted, b__law_quoted⟩ := T.f__law_quoted
    have C__law_quoted := (fm__law_quoted T F__law_quoted : FM P w K mg base _ _ _ _ _)
    obtain ⟨f__law_show, fd__law_show, g__law_show, F__law_show, b__law_show⟩ := T.f__law_show
    have C__law_show := ih F__law_show
    exact fm_of F sc__law_show fun cdv A outer s H E hc => (mss_cons (ms_if (mt_e (me_callB ks_isi rfl T.n_isinstance (by decide +kernel) (ma_cons (me_v 0) (ma_cons (me_ty rfl T.n_tuple (by decide +kernel)) ma_nil)))) (mss_one (ms_ret (me_op os_addA (me_op os_addA (me_op os_addA (me_op os_addA me_str (me_sl (me_v 1) (mo_some me_int) mo_none)) (me_m km_join (me_v 1) (ma_cons (me_lc (own := [("one", 2)]) hc.calm sc__law_show.nd (mi_it (me_v 0)) (blkOk_by (N := N__law_show) (sc := defScope s__law_show) (by decide +kernel)) ⟨_, gs_name 2, fun _ _ _ _ _ => pg_name (i := 2) sc__law_show.nd rfl (Or.inl rfl)⟩ (fun _ _ _ _ _ => mts_nil) (fun _ _ _ _ _ => (me_call C__law_show takes0 (hc.room.mono (Nat.le_refl _)) rfl g__law_show b__law_show (ma_cons (me_v 2) (ma_cons (me_v 1) ma_nil))))) ma_nil))) (me_sl (me_v 1) (mo_some me_int) mo_none)) me_str))) mss_nil)
    (mss_cons (ms_if (mt_e (me_callB ks_isi rfl T.n_isinstance (by decide +kernel) (ma_cons (me_v 0) (ma_cons (me_ty rfl T.n_str (by decide +kernel)) ma_nil)))) (mss_one (ms_ret (me_call C__law_quoted hc.tk (hc.room.mono (Nat.le_trans (by decide : 1 ≤ 1) (Nat.le_add_right _ k))) rfl g__law_quoted b__law_quoted (ma_cons (me_v 0) ma_nil)))) mss_nil)
    (mss_one (ms_ret (me_if (mt_cmp os_isN (me_v 0) me_non (nomark _)) me_str (me_if (mt_e (me_callB ks_isi rfl T.n_isinstance (by decide +kernel) (ma_cons (me_v 0) (ma_cons (me_ty rfl T.n_bool (by decide +kernel)) ma_nil)))) (me_boolSel (me_v 0)) (me_callTy ks_str rfl T.n_str (by decide +kernel) (ma_cons (me_v 0) ma_nil))))))))
theorem fm__law_skip (T : Tx P w K mg) {f : Addr} {fd : FuncData} (F : Fun K "_law_skip" "_law_skip" s__law_skip f fd) : FM P w K mg base 1 f fd ["text", "at"] m__law_skip := by
  exact fm_of F sc__law_skip fun cdv A outer s H E hc => (mss_cons (ms_while hc.po (MW.mt (mw_and (mt_cmp (os_neA hc.room.units) (me_sl (me_v 0) (mo_some (me_v 1)) (mo_some (me_op os_addA (me_v 1) me_int))) me_str (nomark _)) (mw_and1 (mt_mem hc.room.units65 (me_item hc.room.units (me_v 0) (me_v 1)) me_str rfl)))) (mss_one (ms_set 1 sc__law_skip.nd rfl (Or.inl rfl) (me_op os_addA (me_v 1) me_int))))
    (mss_one (ms_ret (me_v 1))))
theorem fm__law_read (T : Tx P w K mg) (k : Nat) : ∀ {f : Addr} {fd : FuncData} (F : Fun K "_law_read" "_law_read" s__law_read f fd), FM P w K mg base (1 + k) f fd ["text", "at", "deep"] (m__law_read k) := by
  induction k with
  | zero => exact fun F => fm_bad F
  | succ k ih =>
    intro f fd F
    obtain ⟨f__law_skip, fd__law_skip, g__law_skip, F__law_skip, b__law_skip⟩ := T.f__law_skip
    have C__law_skip := (fm__law_skip T F__law_skip : FM P w K mg base _ _ _ _ _)
    obtain ⟨f__law_read, fd__law_read, g__law_read, F__law_read, b__law_read⟩ := T.f__law_read
    have C__law_read := ih F__law_read
    exact fm_of F sc__law_read fun cdv A outer s H E hc => (mss_cons (ms_set 3 sc__law_read.nd rfl (Or.inl rfl) (me_sl (me_v 0) (mo_some (me_v 1)) (mo_some (me_op os_addA (me_v 1) me_int))))
    (mss_cons (ms_if (mt_cmp (os_eqA hc.room.units) (me_v 3) me_str (nomark _)) (mss_cons (ms_if (mt_cmp (os_eqA hc.room.units) (me_v 2) me_int (nomark _)) (mss_one (ms_ret (me_tup (ma_cons me_str (ma_cons (me_v 1) ma_nil))))) mss_nil)
    (mss_cons (ms_par hc.calm sc__law_read.nd rfl rfl (by decide) rfl rfl (ma_cons (me_tup ma_nil) (ma_cons (me_call C__law_skip hc.tk (hc.room.mono (Nat.le_trans (by decide : 1 ≤ 1) (Nat.le_add_right _ k))) rfl g__law_skip b__law_skip (ma_cons (me_v 0) (ma_cons (me_op os_addA (me_v 1) me_int) ma_nil))) ma_nil)) (by rfl))
    (mss_cons (ms_while hc.po (mt_cmp (os_neA hc.room.units) (me_sl (me_v 0) (mo_some (me_v 1)) (mo_some (me_op os_addA (me_v 1) me_int))) me_str (nomark _)) (mss_cons (ms_set 5 sc__law_read.nd rfl (Or.inl rfl) (me_call C__law_read hc.tk (hc.room.mono (Nat.le_refl _)) rfl g__law_read b__law_read (ma_cons (me_v 0) (ma_cons (me_v 1) (ma_cons (me_op os_addA (me_v 2) me_int) ma_nil)))))
    (mss_cons (ms_if (mt_cmp (os_eqA hc.room.units) (me_item hc.room.units (me_v 5) me_int) me_str (nomark _)) (mss_one (ms_ret (me_v 5))) mss_nil)
    (mss_one (ms_par hc.calm sc__law_read.nd rfl rfl (by decide) rfl rfl (ma_cons (me_op os_addA (me_v 4) (me_tup (ma_cons (me_item hc.room.units (me_v 5) me_int) ma_nil))) (ma_cons (me_call C__law_skip hc.tk (hc.room.mono (Nat.le_trans (by decide : 1 ≤ 1) (Nat.le_add_right _ k))) rfl g__law_skip b__law_skip (ma_cons (me_v 0) (ma_cons (me_item hc.room.units (me_v 5) me_int) ma_nil))) ma_nil)) (by rfl))))))
    (mss_one (ms_ret (me_tup (ma_cons me_str (ma_cons (me_v 4) (ma_cons (me_call C__law_skip hc.tk (hc.room.mono (Nat.le_trans (by decide : 1 ≤ 1) (Nat.le_add_right _ k))) rfl g__law_skip b__law_skip (ma_cons (me_v 0) (ma_cons (me_op os_addA (me_v 1) me_int) ma_nil))) ma_nil))))))))) mss_nil)
    (mss_cons (ms_if (mt_cmp (os_eqA hc.room.units) (me_v 3) me_str (nomark _)) (mss_cons (ms_par hc.calm sc__law_read.nd rfl rfl (by decide) rfl rfl (ma_cons me_str (ma_cons (me_op os_addA (me_v 1) me_int) ma_nil)) (by rfl))
    (mss_cons (ms_while hc.po (mt_cmp (os_neA hc.room.units) (me_sl (me_v 0) (mo_some (me_v 1)) (mo_some (me_op os_addA (me_v 1) me_int))) me_str (nomark _)) (mss_cons (ms_if (mt_cmp os_geA (me_v 1) (me_callB ks_lenA rfl T.n_len (by decide +kernel) (ma_cons (me_v 0) ma_nil)) (nomark _)) (mss_one (ms_ret (me_tup (ma_cons me_str (ma_cons (me_v 1) ma_nil))))) mss_nil)
    (mss_cons (ms_set 6 sc__law_read.nd rfl (Or.inl rfl) (me_sl (me_v 0) (mo_some (me_v 1)) (mo_some (me_op os_addA (me_v 1) me_int))))
    (mss_cons (ms_if (MW.mt (mw_and (mt_cmp (os_eqA hc.room.units) (me_item hc.room.units (me_v 0) (me_v 1)) me_str (nomark _)) (mw_and1 (mt_notMem hc.room.units65 (me_v 6) (me_tup (ma_cons me_str (ma_cons me_str (ma_cons me_str (ma_cons me_str ma_nil))))) rfl)))) (mss_one (ms_ret (me_tup (ma_cons me_str (ma_cons (me_v 1) ma_nil))))) mss_nil)
    (mss_cons (ms_set 4 sc__law_read.nd rfl (Or.inl rfl) (me_op os_addA (me_v 4) (me_if (mt_cmp (os_eqA hc.room.units) (me_item hc.room.units (me_v 0) (me_v 1)) me_str (nomark _)) (me_item hc.room.units (me_disp (mps_cons me_str me_str (mps_cons me_str me_str (mps_cons me_str me_str (mps_cons me_str me_str mps_nil))))) (me_v 6)) (me_item hc.room.units (me_v 0) (me_v 1)))))
    (mss_one (ms_set 1 sc__law_read.nd rfl (Or.inl rfl) (me_op os_addA (me_v 1) (me_if (mt_cmp (os_eqA hc.room.units) (me_item hc.room.units (me_v 0) (me_v 1)) me_str (nomark _)) me_int me_int)))))))))
    (mss_one (ms_ret (me_tup (ma_cons me_str (ma_cons (me_v 4) (ma_cons (me_call C__law_skip hc.tk (hc.room.mono (Nat.le_trans (by decide : 1 ≤ 1) (Nat.le_add_right _ k))) rfl g__law_skip b__law_skip (ma_cons (me_v 0) (ma_cons (me_op os_addA (me_v 1) me_int) ma_nil))) ma_nil)))))))) mss_nil)
    (mss_cons (ms_set 7 sc__law_read.nd rfl (Or.inl rfl) (me_op os_addA (me_v 1) (me_callTy ks_intA rfl T.n_int (by decide +kernel) (ma_cons (me_cmp (os_eqA hc.room.units) (me_v 3) me_str (nomark _)) ma_nil))))
    (mss_cons (ms_while hc.po (MW.mt (mw_and (mt_cmp (os_neA hc.room.units) (me_sl (me_v 0) (mo_some (me_v 7)) (mo_some (me_op os_addA (me_v 7) me_int))) me_str (nomark _)) (mw_and1 (mt_mem hc.room.units65 (me_item hc.room.units (me_v 0) (me_v 7)) me_str rfl)))) (mss_one (ms_set 7 sc__law_read.nd rfl (Or.inl rfl) (me_op os_addA (me_v 7) me_int))))
    (mss_cons (ms_if (MW.mt (mw_and (mt_cmp (os_eqA hc.room.units) (me_v 3) me_str (nomark _)) (mw_and1 (mt_cmp (os_eqA hc.room.units) (me_v 7) (me_op os_addA (me_v 1) me_int) (nomark _))))) (mss_one (ms_ret (me_tup (ma_cons me_str (ma_cons (me_v 7) ma_nil))))) mss_nil)
    (mss_cons (ms_if (mt_cmp os_gtA (me_op os_sub (me_op os_sub (me_v 7) (me_v 1)) (me_callTy ks_intA rfl T.n_int (by decide +kernel) (ma_cons (me_cmp (os_eqA hc.room.units) (me_v 3) me_str (nomark _)) ma_nil))) me_int (nomark _)) (mss_one (ms_ret (me_tup (ma_cons me_str (ma_cons (me_v 1) ma_nil))))) mss_nil)
    (mss_cons (ms_if (mt_cmp os_gtA (me_v 7) (me_v 1) (nomark _)) (mss_one (ms_ret (me_tup (ma_cons me_str (ma_cons (me_callTy ks_intA rfl T.n_int (by decide +kernel) (ma_cons (me_sl (me_v 0) (mo_some (me_v 1)) (mo_some (me_v 7))) ma_nil)) (ma_cons (me_call C__law_skip hc.tk (hc.room.mono (Nat.le_trans (by decide : 1 ≤ 1) (Nat.le_add_right _ k))) rfl g__law_skip b__law_skip (ma_cons (me_v 0) (ma_cons (me_v 7) ma_nil))) ma_nil)))))) mss_nil)
    (mss_cons (ms_while hc.po (MW.mt (mw_and (mt_cmp (os_neA hc.room.units) (me_sl (me_v 0) (mo_some (me_v 7)) (mo_some (me_op os_addA (me_v 7) me_int))) me_str (nomark _)) (mw_and1 (mt_chain os_leA os_leA me_str (me_item hc.room.units (me_v 0) (me_v 7)) me_str)))) (mss_one (ms_set 7 sc__law_read.nd rfl (Or.inl rfl) (me_op os_addA (me_v 7) me_int))))
    (mss_cons (ms_if (mt_notMem hc.room.units65 (me_sl (me_v 0) (mo_some (me_v 1)) (mo_some (me_v 7))) (me_tup (ma_cons me_str (ma_cons me_str (ma_cons me_str ma_nil)))) rfl) (mss_one (ms_ret (me_tup (ma_cons me_str (ma_cons (me_v 1) ma_nil))))) mss_nil)
    (mss_one (ms_ret (me_tup (ma_cons me_str (ma_cons (me_item hc.room.units (me_disp (mps_cons me_str me_non (mps_cons me_str me_bl (mps_cons me_str me_bl mps_nil)))) (me_sl (me_v 0) (mo_some (me_v 1)) (mo_some (me_v 7)))) (ma_cons (me_call C__law_skip hc.tk (hc.room.mono (Nat.le_trans (by decide : 1 ≤ 1) (Nat.le_add_right _ k))) rfl g__law_skip b__law_skip (ma_cons (me_v 0) (ma_cons (me_v 7) ma_nil))) ma_nil))))))))))))))))
theorem fm__law_whole (T : Tx P w K mg) {f : Addr} {fd : FuncData} (F : Fun K "_law_whole" "_law_whole" s__law_whole f fd) : FM P w K mg base 28 f fd ["text"] m__law_whole := by
  obtain ⟨f__law_read, fd__law_read, g__law_read, F__law_read, b__law_read⟩ := T.f__law_read
  have C__law_read := (fm__law_read T 26 F__law_read : FM P w K mg base _ _ _ _ _)
  obtain ⟨f__law_skip, fd__law_skip, g__law_skip, F__law_skip, b__law_skip⟩ := T.f__law_skip
  have C__law_skip := (fm__law_skip T F__law_skip : FM P w K mg base _ _ _ _ _)
  exact fm_of F sc__law_whole fun cdv A outer s H E hc => (mss_cons (ms_set 1 sc__law_whole.nd rfl (Or.inl rfl) (me_call C__law_read hc.tk (hc.room.mono (by decide)) rfl g__law_read b__law_read (ma_cons (me_v 0) (ma_cons (me_call C__law_skip hc.tk (hc.room.mono (by decide)) rfl g__law_skip b__law_skip (ma_cons (me_v 0) (ma_cons me_int ma_nil))) (ma_cons me_int ma_nil)))))
    (mss_one (ms_ret (me_if (mt_cmp (os_eqA hc.room.units) (me_item hc.room.units (me_v 1) me_int) me_str (nomark _)) (me_v 1) (me_if (mt_cmp os_ltA (me_item hc.room.units (me_v 1) me_int) (me_callB ks_lenA rfl T.n_len (by decide +kernel) (ma_cons (me_v 0) ma_nil)) (nomark _)) (me_tup (ma_cons me_str (ma_cons (me_item hc.room.units (me_v 1) me_int) ma_nil))) (me_tup (ma_cons me_str (ma_cons (me_item hc.room.units (me_v 1) me_int) ma_nil))))))))
theorem fm__law_asked (T : Tx P w K mg) {f : Addr} {fd : FuncData} (F : Fun K "_law_asked" "_law_asked" s__law_asked f fd) : FM P w K mg base 59 f fd ["text"] m__law_asked := by
  obtain ⟨f_read_shown, fd_read_shown, g_read_shown, F_read_shown, b_read_shown⟩ := T.f_read_shown
  have C_read_shown := (fm_read_shown T F_read_shown : FM P w K mg base _ _ _ _ _)
  obtain ⟨C_GateError, mC_GateError, E_GateError⟩ := T.e_GateError
  obtain ⟨C_InvalidText, mC_InvalidText, E_InvalidText⟩ := T.e_InvalidText
  exact fm_of F sc__law_asked fun cdv A outer s H E hc => (mss_one (ms_try rfl rfl sc__law_asked.nd hc.tk T.sub (fun _ _ _ tk1 po1 => (mss_one (ms_ret (me_tup (ma_cons me_str (ma_cons (me_call C_read_shown tk1 (hc.room.mono (by decide)) rfl g_read_shown b_read_shown (ma_cons (me_v 0) ma_nil)) ma_nil)))))) (HdsX.consAs rfl mC_InvalidText (.tail _ (.head _)) (by decide) rfl rfl (fun a oe cls d pn hz ho => (mssx_one (msx_ret (mx_tup (max_cons (mx_lift me_str) (max_cons (mx_fld T.xf (Or.inl rfl) hz ho rfl (Or.inl rfl)) max_nil)))))) (HdsX.consAs rfl mC_GateError (.head _) (by decide) rfl rfl (fun a oe cls d pn hz ho => (mssx_one (msx_ret (mx_tup (max_cons (mx_lift me_str) (max_cons (mx_fld T.xf (Or.inl rfl) hz ho rfl (Or.inl rfl)) max_nil)))))) HdsX.nil))))
theorem fm_law (T : Tx P w K mg) {f : Addr} {fd : FuncData} (F : Fun K "law" "law" s_law f fd) : FM P w K mg base 60 f fd ["script"] m_law := by
  obtain ⟨f__law_draw, fd__law_draw, g__law_draw, F__law_draw, b__law_draw⟩ := T.f__law_draw
  have C__law_draw := (fm__law_draw T 6 F__law_draw : FM P w K mg base _ _ _ _ _)
  obtain ⟨f__law_same, fd__law_same, g__law_same, F__law_same, b__law_same⟩ := T.f__law_same
  have C__law_same := (fm__law_same T 30 F__law_same : FM P w K mg base _ _ _ _ _)
  obtain ⟨f_show, fd_show, g_show, F_show, b_show⟩ := T.f_show
  have C_show := (fm_show T 26 F_show : FM P w K mg base _ _ _ _ _)
  obtain ⟨f__law_next, fd__law_next, g__law_next, F__law_next, b__law_next⟩ := T.f__law_next
  have C__law_next := (fm__law_next T F__law_next : FM P w K mg base _ _ _ _ _)
  obtain ⟨f__law_show, fd__law_show, g__law_show, F__law_show, b__law_show⟩ := T.f__law_show
  have C__law_show := (fm__law_show T 26 F__law_show : FM P w K mg base _ _ _ _ _)
  obtain ⟨f_quoted, fd_quoted, g_quoted, F_quoted, b_quoted⟩ := T.f_quoted
  have C_quoted := (fm_quoted T F_quoted : FM P w K mg base _ _ _ _ _)
  obtain ⟨f__law_asked, fd__law_asked, g__law_asked, F__law_asked, b__law_asked⟩ := T.f__law_asked
  have C__law_asked := (fm__law_asked T F__law_asked : FM P w K mg base _ _ _ _ _)
  obtain ⟨f__law_quoted, fd__law_quoted, g__law_quoted, F__law_quoted, b__law_quoted⟩ := T.f__law_quoted
  have C__law_quoted := (fm__law_quoted T F__law_quoted : FM P w K mg base _ _ _ _ _)
  obtain ⟨f_is_shown, fd_is_shown, g_is_shown, F_is_shown, b_is_shown⟩ := T.f_is_shown
  have C_is_shown := (fm_is_shown T F_is_shown : FM P w K mg base _ _ _ _ _)
  obtain ⟨f__law_whole, fd__law_whole, g__law_whole, F__law_whole, b__law_whole⟩ := T.f__law_whole
  have C__law_whole := (fm__law_whole T F__law_whole : FM P w K mg base _ _ _ _ _)
  exact fm_of F sc_law fun cdv A outer s H E hc => (mss_cons (ms_set 1 sc_law.nd rfl (Or.inr rfl) (me_new 0 (ma_cons (me_callTy ks_list rfl T.n_list (by decide +kernel) (ma_cons (me_v 0) ma_nil)) (ma_cons me_int (ma_cons me_int (ma_cons me_int ma_nil))))))
    (mss_cons (ms_set 2 sc_law.nd rfl (Or.inl rfl) (me_call C__law_draw hc.tk (hc.room.mono (by decide)) rfl g__law_draw b__law_draw (ma_cons (me_v 1) (ma_cons me_int ma_nil))))
    (mss_cons (ms_par hc.calm sc_law.nd rfl rfl (by decide) rfl rfl (ma_cons (me_call C_show hc.tk (hc.room.mono (by decide)) rfl g_show b_show (ma_cons (me_v 2) ma_nil)) (ma_cons (me_item hc.room.units (me_tup (ma_cons me_str (ma_cons me_str (ma_cons me_str (ma_cons me_str ma_nil))))) (me_call C__law_next hc.tk (hc.room.mono (by decide)) rfl g__law_next b__law_next (ma_cons (me_v 1) (ma_cons me_int ma_nil)))) ma_nil)) (by rfl))
    (mss_cons (ms_set 5 sc_law.nd rfl (Or.inl rfl) (me_op os_addA (me_op os_addA (me_sl (me_v 4) (mo_some me_int) mo_none) (me_call C__law_show hc.tk (hc.room.mono (by decide)) rfl g__law_show b__law_show (ma_cons (me_v 2) (ma_cons (me_v 4) ma_nil)))) (me_sl (me_v 4) (mo_some me_int) mo_none)))
    (mss_cons (ms_if (mt_not (mt_e (me_call C__law_same hc.tk (hc.room.mono (by decide)) rfl g__law_same b__law_same (ma_cons (me_lst (ma_cons (me_v 3) (ma_cons (me_call C__law_asked hc.tk (hc.room.mono (by decide)) rfl g__law_asked b__law_asked (ma_cons (me_v 3) ma_nil)) (ma_cons (me_call C__law_asked hc.tk (hc.room.mono (by decide)) rfl g__law_asked b__law_asked (ma_cons (me_v 5) ma_nil)) (ma_cons (me_call C_is_shown hc.tk (hc.room.mono (by decide)) rfl g_is_shown b_is_shown (ma_cons (me_v 2) ma_nil)) ma_nil))))) (ma_cons (me_lst (ma_cons (me_call C__law_show hc.tk (hc.room.mono (by decide)) rfl g__law_show b__law_show (ma_cons (me_v 2) (ma_cons me_str ma_nil))) (ma_cons (me_tup (ma_cons me_str (ma_cons (me_v 2) ma_nil))) (ma_cons (me_tup (ma_cons me_str (ma_cons (me_v 2) ma_nil))) (ma_cons me_bl ma_nil))))) ma_nil))))) (mss_one (ms_ret me_bl)) mss_nil)
    (mss_cons (ms_for hc.po hc.calm (mi_r1 rfl T.n_range (ma_cons me_int ma_nil)) (mg_name 6 sc_law.nd rfl (Or.inl rfl)) (mss_cons (ms_par hc.calm sc_law.nd rfl rfl (by decide) rfl rfl (ma_cons (me_call C__law_next hc.tk (hc.room.mono (by decide)) rfl g__law_next b__law_next (ma_cons (me_v 1) (ma_cons (me_op os_addA (me_callB ks_lenA rfl T.n_len (by decide +kernel) (ma_cons (me_v 3) ma_nil)) me_int) ma_nil))) (ma_cons (me_item hc.room.units me_str (me_call C__law_next hc.tk (hc.room.mono (by decide)) rfl g__law_next b__law_next (ma_cons (me_v 1) (ma_cons me_int ma_nil)))) ma_nil)) (by rfl))
    (mss_cons (ms_set 9 sc_law.nd rfl (Or.inl rfl) (me_item hc.room.units (me_tup (ma_cons (me_op os_addA (me_sl (me_v 3) mo_none (mo_some (me_v 7))) (me_sl (me_v 3) (mo_some (me_op os_addA (me_v 7) me_int)) mo_none)) (ma_cons (me_op os_addA (me_op os_addA (me_sl (me_v 3) mo_none (mo_some (me_v 7))) (me_v 8)) (me_sl (me_v 3) (mo_some (me_v 7)) mo_none)) (ma_cons (me_op os_addA (me_op os_addA (me_sl (me_v 3) mo_none (mo_some (me_v 7))) (me_v 8)) (me_sl (me_v 3) (mo_some (me_op os_addA (me_v 7) me_int)) mo_none)) (ma_cons (me_sl (me_v 3) mo_none (mo_some (me_v 7))) ma_nil))))) (me_call C__law_next hc.tk (hc.room.mono (by decide)) rfl g__law_next b__law_next (ma_cons (me_v 1) (ma_cons me_int ma_nil)))))
    (mss_one (ms_if (mt_not (mt_e (me_call C__law_same hc.tk (hc.room.mono (by decide)) rfl g__law_same b__law_same (ma_cons (me_call C__law_asked hc.tk (hc.room.mono (by decide)) rfl g__law_asked b__law_asked (ma_cons (me_v 9) ma_nil)) (ma_cons (me_call C__law_whole hc.tk (hc.room.mono (by decide)) rfl g__law_whole b__law_whole (ma_cons (me_v 9) ma_nil)) ma_nil))))) (mss_one (ms_ret me_bl)) mss_nil)))))
    (mss_cons (ms_asg (me_tup (ma_cons (me_tup ma_nil) (ma_cons me_int ma_nil))) (mg_tup hc.calm (mgs_cons (mg_name 10 sc_law.nd rfl (Or.inl rfl)) (mgs_cons (mg_name 11 sc_law.nd rfl (Or.inl rfl)) mgs_nil))))
    (mss_cons (ms_for hc.po hc.calm (mi_r1 rfl T.n_range (ma_cons (me_op os_addA me_int (me_call C__law_next hc.tk (hc.room.mono (by decide)) rfl g__law_next b__law_next (ma_cons (me_v 1) (ma_cons me_int ma_nil)))) ma_nil)) (mg_name 12 sc_law.nd rfl (Or.inl rfl)) (mss_one (ms_set 11 sc_law.nd rfl (Or.inl rfl) (me_op os_mul (me_v 11) me_int))))
    (mss_cons (ms_set 11 sc_law.nd rfl (Or.inl rfl) (me_op os_sub (me_v 11) (me_call C__law_next hc.tk (hc.room.mono (by decide)) rfl g__law_next b__law_next (ma_cons (me_v 1) (ma_cons me_int ma_nil)))))
    (mss_cons (ms_for hc.po hc.calm (mi_r1 rfl T.n_range (ma_cons (me_op os_addA me_int (me_call C__law_next hc.tk (hc.room.mono (by decide)) rfl g__law_next b__law_next (ma_cons (me_v 1) (ma_cons me_int ma_nil)))) ma_nil)) (mg_name 12 sc_law.nd rfl (Or.inl rfl)) (mss_one (ms_set 10 sc_law.nd rfl (Or.inl rfl) (me_if (mt_cmp (os_eqA hc.room.units) (me_call C__law_next hc.tk (hc.room.mono (by decide)) rfl g__law_next b__law_next (ma_cons (me_v 1) (ma_cons me_int ma_nil))) me_int (nomark _)) (me_tup (ma_cons (me_v 10) (ma_cons me_int ma_nil))) (me_tup (ma_cons (me_v 10) ma_nil))))))
    (mss_cons (ms_forA hc.po hc.calm (me_tup (ma_cons (me_v 10) (ma_cons (me_v 11) (ma_cons (me_un us_neg (me_v 11)) (ma_cons (me_tup (ma_cons me_int (ma_cons (me_v 11) ma_nil))) ma_nil))))) (mg_name 13 sc_law.nd rfl (Or.inl rfl)) (mss_cons (ms_set 14 sc_law.nd rfl (Or.inl rfl) (me_call C__law_show hc.tk (hc.room.mono (by decide)) rfl g__law_show b__law_show (ma_cons (me_v 13) (ma_cons me_str ma_nil))))
    (mss_one (ms_if (mt_not (mt_e (me_call C__law_same hc.tk (hc.room.mono (by decide)) rfl g__law_same b__law_same (ma_cons (me_lst (ma_cons (me_call C__law_asked hc.tk (hc.room.mono (by decide)) rfl g__law_asked b__law_asked (ma_cons (me_v 14) ma_nil)) (ma_cons (me_call C_is_shown hc.tk (hc.room.mono (by decide)) rfl g_is_shown b_is_shown (ma_cons (me_v 13) ma_nil)) ma_nil))) (ma_cons (me_lst (ma_cons (me_call C__law_whole hc.tk (hc.room.mono (by decide)) rfl g__law_whole b__law_whole (ma_cons (me_v 14) ma_nil)) (ma_cons (me_cmp (os_eqA hc.room.units) (me_item hc.room.units (me_call C__law_whole hc.tk (hc.room.mono (by decide)) rfl g__law_whole b__law_whole (ma_cons (me_v 14) ma_nil)) me_int) me_str (nomark _)) ma_nil))) ma_nil))))) (mss_one (ms_ret me_bl)) mss_nil))))
    (mss_cons (ms_set 15 sc_law.nd rfl (Or.inl rfl) (me_lst (ma_cons me_int (ma_cons me_str (ma_cons me_non (ma_cons me_bl (ma_cons (me_tup ma_nil) (ma_cons (me_tup (ma_cons me_str (ma_cons (me_tup (ma_cons me_int (ma_cons me_non ma_nil))) ma_nil))) (ma_cons (me_lst (ma_cons me_int ma_nil)) (ma_cons (me_tup (ma_cons me_str (ma_cons (me_lst (ma_cons me_int ma_nil)) ma_nil))) (ma_cons (me_disp (mps_cons me_str me_int mps_nil)) (ma_cons (me_tup (ma_cons me_non (ma_cons (me_lst ma_nil) ma_nil))) ma_nil))))))))))))
    (mss_cons (ms_set 16 sc_law.nd rfl (Or.inl rfl) (me_m km_join me_str (ma_cons (me_lc (own := [("k", 12)]) hc.calm sc_law.nd (mi_r1 rfl T.n_range (ma_cons (me_call C__law_next hc.tk (hc.room.mono (by decide)) rfl g__law_next b__law_next (ma_cons (me_v 1) (ma_cons me_int ma_nil))) ma_nil)) (blkOk_by (N := N_law) (sc := defScope s_law) (by decide +kernel)) ⟨_, gs_name 12, fun _ _ _ _ _ => pg_name (i := 12) sc_law.nd rfl (Or.inl rfl)⟩ (fun _ _ _ _ _ => mts_nil) (fun _ _ _ _ _ => (me_item hc.room.units me_str (me_call C__law_next takes0 (hc.room.mono (by decide)) rfl g__law_next b__law_next (ma_cons (me_v 1) (ma_cons me_int ma_nil)))))) ma_nil)))
    (mss_one (ms_ret (me_call C__law_same hc.tk (hc.room.mono (by decide)) rfl g__law_same b__law_same (ma_cons (me_lst (ma_cons (me_lc (own := [("one", 13)]) hc.calm sc_law.nd (mi_it (me_v 15)) (blkOk_by (N := N_law) (sc := defScope s_law) (by decide +kernel)) ⟨_, gs_name 13, fun _ _ _ _ _ => pg_name (i := 13) sc_law.nd rfl (Or.inl rfl)⟩ (fun _ _ _ _ _ => mts_nil) (fun _ _ _ _ _ => (me_call C_is_shown takes0 (hc.room.mono (by decide)) rfl g_is_shown b_is_shown (ma_cons (me_v 13) ma_nil)))) (ma_cons (me_call C_quoted hc.tk (hc.room.mono (by decide)) rfl g_quoted b_quoted (ma_cons (me_v 16) ma_nil)) (ma_cons (me_call C__law_asked hc.tk (hc.room.mono (by decide)) rfl g__law_asked b__law_asked (ma_cons (me_call C_quoted hc.tk (hc.room.mono (by decide)) rfl g_quoted b_quoted (ma_cons (me_v 16) ma_nil)) ma_nil)) ma_nil)))) (ma_cons (me_lst (ma_cons (me_op os_addA (me_op os_mul (me_lst (ma_cons me_bl ma_nil)) me_int) (me_op os_mul (me_lst (ma_cons me_bl ma_nil)) me_int)) (ma_cons (me_call C__law_quoted hc.tk (hc.room.mono (by decide)) rfl g__law_quoted b__law_quoted (ma_cons (me_v 16) ma_nil)) (ma_cons (me_tup (ma_cons me_str (ma_cons (me_v 16) ma_nil))) ma_nil)))) ma_nil))))))))))))))))))
end
end K02

namespace K02
open MP PySem PySem.Spec PyProof.Rows L2
theorem all_mk {l : PySem.W.OpenLaw} {w : World} {K : PySem.W.Frag} {h : Heap} {mg : Str → Option Value} {fa : Addr} (X : K.In h) (G : h.Ns mainGlobals mg) (hfa : mg "law" = some (.ref fa))
    {f0 : Addr} {od0 an0 : Option Addr} {sl0 : Array (Option Value)} {oc0 kV0 dc0 pm0 cd0 ct0 : Value}
    {f1 : Addr} {od1 an1 : Option Addr} {sl1 : Array (Option Value)} {oc1 kV1 dc1 pm1 cd1 ct1 : Value}
    {f2 : Addr} {od2 an2 : Option Addr} {sl2 : Array (Option Value)} {oc2 kV2 dc2 pm2 cd2 ct2 : Value}
    {f3 : Addr} {od3 an3 : Option Addr} {sl3 : Array (Option Value)} {oc3 kV3 dc3 pm3 cd3 ct3 : Value}
    {f4 : Addr} {od4 an4 : Option Addr} {sl4 : Array (Option Value)} {oc4 kV4 dc4 pm4 cd4 ct4 : Value}
    {f5 : Addr} {od5 an5 : Option Addr} {sl5 : Array (Option Value)} {oc5 kV5 dc5 pm5 cd5 ct5 : Value}
    {f6 : Addr} {od6 an6 : Option Addr} {sl6 : Array (Option Value)} {oc6 kV6 dc6 pm6 cd6 ct6 : Value}
    {f7 : Addr} {od7 an7 : Option Addr} {sl7 : Array (Option Value)} {oc7 kV7 dc7 pm7 cd7 ct7 : Value}
    {f8 : Addr} {od8 an8 : Option Addr} {sl8 : Array (Option Value)} {oc8 kV8 dc8 pm8 cd8 ct8 : Value}
    {f9 : Addr} {od9 an9 : Option Addr} {sl9 : Array (Option Value)} {oc9 kV9 dc9 pm9 cd9 ct9 : Value}
    {f10 : Addr} {od10 an10 : Option Addr} {sl10 : Array (Option Value)} {oc10 kV10 dc10 pm10 cd10 ct10 : Value}
    {f11 : Addr} {od11 an11 : Option Addr} {sl11 : Array (Option Value)} {oc11 kV11 dc11 pm11 cd11 ct11 : Value}
    {f12 : Addr} {od12 an12 : Option Addr} {sl12 : Array (Option Value)} {oc12 kV12 dc12 pm12 cd12 ct12 : Value}
    {f13 : Addr} {od13 an13 : Option Addr} {sl13 : Array (Option Value)} {oc13 kV13 dc13 pm13 cd13 ct13 : Value}
    {f14 : Addr} {od14 an14 : Option Addr} {sl14 : Array (Option Value)} {oc14 kV14 dc14 pm14 cd14 ct14 : Value}
    {f15 : Addr} {od15 an15 : Option Addr} {sl15 : Array (Option Value)} {oc15 kV15 dc15 pm15 cd15 ct15 : Value}
    {f16 : Addr} {od16 an16 : Option Addr} {sl16 : Array (Option Value)} {oc16 kV16 dc16 pm16 cd16 ct16 : Value}
    {f17 : Addr} {od17 an17 : Option Addr} {sl17 : Array (Option Value)} {oc17 kV17 dc17 pm17 cd17 ct17 : Value}
    {f18 : Addr} {od18 an18 : Option Addr} {sl18 : Array (Option Value)} {oc18 kV18 dc18 pm18 cd18 ct18 : Value}
    {f19 : Addr} {od19 an19 : Option Addr} {sl19 : Array (Option Value)} {oc19 kV19 dc19 pm19 cd19 ct19 : Value}
    {cv0 : Value}
    {cv1 : Value}
    {cv2 : Value}
    {ta0 : Addr} {te0 : Array DictEntry} {tn0 : Nat}
    {eC0 ef0 ua0 ub0 : Addr} {eod0 ean0 eo20 eo30 : Option Addr} {esl0 es20 es30 : Array (Option Value)} {ekV0 edc0 epm0 ect0 eoc0 eol0 : Value} {evs0 : Array Value} {etf0 : Tok}
    {eC1 ef1 ua1 ub1 : Addr} {eod1 ean1 eo21 eo31 : Option Addr} {esl1 es21 es31 : Array (Option Value)} {ekV1 edc1 epm1 ect1 eoc1 eol1 : Value} {evs1 : Array Value} {etf1 : Tok}
    (a0 : PySem.W.nsIn K mainGlobals "is_shown_at" = some (some (.ref f0)))
    (l0 : K.lookup f0 = some ⟨oc0, od0, .func (PySem.W.fnOf "is_shown_at" "is_shown_at" (defArgs s_is_shown_at) (defBody s_is_shown_at) (defScope s_is_shown_at) .none kV0 dc0 pm0 an0 cd0 ct0), sl0⟩)
    (c0 : PySem.W.codeIn K cd0 "is_shown_at" = true)
    (k0 : PySem.W.keepIn K (.ref f0) = true)
    (a1 : PySem.W.nsIn K mainGlobals "is_shown" = some (some (.ref f1)))
    (l1 : K.lookup f1 = some ⟨oc1, od1, .func (PySem.W.fnOf "is_shown" "is_shown" (defArgs s_is_shown) (defBody s_is_shown) (defScope s_is_shown) .none kV1 dc1 pm1 an1 cd1 ct1), sl1⟩)
    (c1 : PySem.W.codeIn K cd1 "is_shown" = true)
    (k1 : PySem.W.keepIn K (.ref f1) = true)
    (a2 : PySem.W.nsIn K mainGlobals "quoted" = some (some (.ref f2)))
    (l2 : K.lookup f2 = some ⟨oc2, od2, .func (PySem.W.fnOf "quoted" "quoted" (defArgs s_quoted) (defBody s_quoted) (defScope s_quoted) .none kV2 dc2 pm2 an2 cd2 ct2), sl2⟩)
    (c2 : PySem.W.codeIn K cd2 "quoted" = true)
    (k2 : PySem.W.keepIn K (.ref f2) = true)
    (a3 : PySem.W.nsIn K mainGlobals "show" = some (some (.ref f3)))
    (l3 : K.lookup f3 = some ⟨oc3, od3, .func (PySem.W.fnOf "show" "show" (defArgs s_show) (defBody s_show) (defScope s_show) .none kV3 dc3 pm3 an3 cd3 ct3), sl3⟩)
    (c3 : PySem.W.codeIn K cd3 "show" = true)
    (k3 : PySem.W.keepIn K (.ref f3) = true)
    (a4 : PySem.W.nsIn K mainGlobals "skipped" = some (some (.ref f4)))
    (l4 : K.lookup f4 = some ⟨oc4, od4, .func (PySem.W.fnOf "skipped" "skipped" (defArgs s_skipped) (defBody s_skipped) (defScope s_skipped) .none kV4 dc4 pm4 an4 cd4 ct4), sl4⟩)
    (c4 : PySem.W.codeIn K cd4 "skipped" = true)
    (k4 : PySem.W.keepIn K (.ref f4) = true)
    (a5 : PySem.W.nsIn K mainGlobals "quote_at" = some (some (.ref f5)))
    (l5 : K.lookup f5 = some ⟨oc5, od5, .func (PySem.W.fnOf "quote_at" "quote_at" (defArgs s_quote_at) (defBody s_quote_at) (defScope s_quote_at) .none kV5 dc5 pm5 an5 cd5 ct5), sl5⟩)
    (c5 : PySem.W.codeIn K cd5 "quote_at" = true)
    (k5 : PySem.W.keepIn K (.ref f5) = true)
    (a6 : PySem.W.nsIn K mainGlobals "integer_at" = some (some (.ref f6)))
    (l6 : K.lookup f6 = some ⟨oc6, od6, .func (PySem.W.fnOf "integer_at" "integer_at" (defArgs s_integer_at) (defBody s_integer_at) (defScope s_integer_at) .none kV6 dc6 pm6 an6 cd6 ct6), sl6⟩)
    (c6 : PySem.W.codeIn K cd6 "integer_at" = true)
    (k6 : PySem.W.keepIn K (.ref f6) = true)
    (a7 : PySem.W.nsIn K mainGlobals "value_at" = some (some (.ref f7)))
    (l7 : K.lookup f7 = some ⟨oc7, od7, .func (PySem.W.fnOf "value_at" "value_at" (defArgs s_value_at) (defBody s_value_at) (defScope s_value_at) .none kV7 dc7 pm7 an7 cd7 ct7), sl7⟩)
    (c7 : PySem.W.codeIn K cd7 "value_at" = true)
    (k7 : PySem.W.keepIn K (.ref f7) = true)
    (a8 : PySem.W.nsIn K mainGlobals "tuple_at" = some (some (.ref f8)))
    (l8 : K.lookup f8 = some ⟨oc8, od8, .func (PySem.W.fnOf "tuple_at" "tuple_at" (defArgs s_tuple_at) (defBody s_tuple_at) (defScope s_tuple_at) .none kV8 dc8 pm8 an8 cd8 ct8), sl8⟩)
    (c8 : PySem.W.codeIn K cd8 "tuple_at" = true)
    (k8 : PySem.W.keepIn K (.ref f8) = true)
    (a9 : PySem.W.nsIn K mainGlobals "read_shown" = some (some (.ref f9)))
    (l9 : K.lookup f9 = some ⟨oc9, od9, .func (PySem.W.fnOf "read_shown" "read_shown" (defArgs s_read_shown) (defBody s_read_shown) (defScope s_read_shown) .none kV9 dc9 pm9 an9 cd9 ct9), sl9⟩)
    (c9 : PySem.W.codeIn K cd9 "read_shown" = true)
    (k9 : PySem.W.keepIn K (.ref f9) = true)
    (a10 : PySem.W.nsIn K mainGlobals "_law_next" = some (some (.ref f10)))
    (l10 : K.lookup f10 = some ⟨oc10, od10, .func (PySem.W.fnOf "_law_next" "_law_next" (defArgs s__law_next) (defBody s__law_next) (defScope s__law_next) .none kV10 dc10 pm10 an10 cd10 ct10), sl10⟩)
    (c10 : PySem.W.codeIn K cd10 "_law_next" = true)
    (k10 : PySem.W.keepIn K (.ref f10) = true)
    (a11 : PySem.W.nsIn K mainGlobals "_law_same" = some (some (.ref f11)))
    (l11 : K.lookup f11 = some ⟨oc11, od11, .func (PySem.W.fnOf "_law_same" "_law_same" (defArgs s__law_same) (defBody s__law_same) (defScope s__law_same) .none kV11 dc11 pm11 an11 cd11 ct11), sl11⟩)
    (c11 : PySem.W.codeIn K cd11 "_law_same" = true)
    (k11 : PySem.W.keepIn K (.ref f11) = true)
    (a12 : PySem.W.nsIn K mainGlobals "_law_draw" = some (some (.ref f12)))
    (l12 : K.lookup f12 = some ⟨oc12, od12, .func (PySem.W.fnOf "_law_draw" "_law_draw" (defArgs s__law_draw) (defBody s__law_draw) (defScope s__law_draw) .none kV12 dc12 pm12 an12 cd12 ct12), sl12⟩)
    (c12 : PySem.W.codeIn K cd12 "_law_draw" = true)
    (k12 : PySem.W.keepIn K (.ref f12) = true)
    (a13 : PySem.W.nsIn K mainGlobals "_law_quoted" = some (some (.ref f13)))
    (l13 : K.lookup f13 = some ⟨oc13, od13, .func (PySem.W.fnOf "_law_quoted" "_law_quoted" (defArgs s__law_quoted) (defBody s__law_quoted) (defScope s__law_quoted) .none kV13 dc13 pm13 an13 cd13 ct13), sl13⟩)
    (c13 : PySem.W.codeIn K cd13 "_law_quoted" = true)
    (k13 : PySem.W.keepIn K (.ref f13) = true)
    (a14 : PySem.W.nsIn K mainGlobals "_law_show" = some (some (.ref f14)))
    (l14 : K.lookup f14 = some ⟨oc14, od14, .func (PySem.W.fnOf "_law_show" "_law_show" (defArgs s__law_show) (defBody s__law_show) (defScope s__law_show) .none kV14 dc14 pm14 an14 cd14 ct14), sl14⟩)
    (c14 : PySem.W.codeIn K cd14 "_law_show" = true)
    (k14 : PySem.W.keepIn K (.ref f14) = true)
    (a15 : PySem.W.nsIn K mainGlobals "_law_skip" = some (some (.ref f15)))
    (l15 : K.lookup f15 = some ⟨oc15, od15, .func (PySem.W.fnOf "_law_skip" "_law_skip" (defArgs s__law_skip) (defBody s__law_skip) (defScope s__law_skip) .none kV15 dc15 pm15 an15 cd15 ct15), sl15⟩)
    (c15 : PySem.W.codeIn K cd15 "_law_skip" = true)
    (k15 : PySem.W.keepIn K (.ref f15) = true)
    (a16 : PySem.W.nsIn K mainGlobals "_law_read" = some (some (.ref f16)))
    (l16 : K.lookup f16 = some ⟨oc16, od16, .func (PySem.W.fnOf "_law_read" "_law_read" (defArgs s__law_read) (defBody s__law_read) (defScope s__law_read) .none kV16 dc16 pm16 an16 cd16 ct16), sl16⟩)
    (c16 : PySem.W.codeIn K cd16 "_law_read" = true)
    (k16 : PySem.W.keepIn K (.ref f16) = true)
    (a17 : PySem.W.nsIn K mainGlobals "_law_whole" = some (some (.ref f17)))
    (l17 : K.lookup f17 = some ⟨oc17, od17, .func (PySem.W.fnOf "_law_whole" "_law_whole" (defArgs s__law_whole) (defBody s__law_whole) (defScope s__law_whole) .none kV17 dc17 pm17 an17 cd17 ct17), sl17⟩)
    (c17 : PySem.W.codeIn K cd17 "_law_whole" = true)
    (k17 : PySem.W.keepIn K (.ref f17) = true)
    (a18 : PySem.W.nsIn K mainGlobals "_law_asked" = some (some (.ref f18)))
    (l18 : K.lookup f18 = some ⟨oc18, od18, .func (PySem.W.fnOf "_law_asked" "_law_asked" (defArgs s__law_asked) (defBody s__law_asked) (defScope s__law_asked) .none kV18 dc18 pm18 an18 cd18 ct18), sl18⟩)
    (c18 : PySem.W.codeIn K cd18 "_law_asked" = true)
    (k18 : PySem.W.keepIn K (.ref f18) = true)
    (a19 : PySem.W.nsIn K mainGlobals "law" = some (some (.ref f19)))
    (l19 : K.lookup f19 = some ⟨oc19, od19, .func (PySem.W.fnOf "law" "law" (defArgs s_law) (defBody s_law) (defScope s_law) .none kV19 dc19 pm19 an19 cd19 ct19), sl19⟩)
    (c19 : PySem.W.codeIn K cd19 "law" = true)
    (k19 : PySem.W.keepIn K (.ref f19) = true)
    (z0 : PySem.W.nsIn K mainGlobals "abs" = some none)
    (z1 : PySem.W.nsIn K mainGlobals "all" = some none)
    (z2 : PySem.W.nsIn K mainGlobals "bool" = some none)
    (z3 : PySem.W.nsIn K mainGlobals "int" = some none)
    (z4 : PySem.W.nsIn K mainGlobals "isinstance" = some none)
    (z5 : PySem.W.nsIn K mainGlobals "len" = some none)
    (z6 : PySem.W.nsIn K mainGlobals "list" = some none)
    (z7 : PySem.W.nsIn K mainGlobals "range" = some none)
    (z8 : PySem.W.nsIn K mainGlobals "str" = some none)
    (z9 : PySem.W.nsIn K mainGlobals "tuple" = some none)
    (y0 : PySem.W.nsIn K mainGlobals "LARGEST" = some (some cv0))
    (yk0 : kD K 9 cv0 = some (.int 10000000000000000000000000000000000000000))
    (y1 : PySem.W.nsIn K mainGlobals "MOST_DIGITS" = some (some cv1))
    (yk1 : kD K 9 cv1 = some (.int 40))
    (y2 : PySem.W.nsIn K mainGlobals "MOST_NESTED" = some (some cv2))
    (yk2 : kD K 9 cv2 = some (.int 20))
    (ya0 : PySem.W.nsIn K mainGlobals "SHORT" = some (some (.ref ta0)))
    (yb0 : K.lookup ta0 = some ⟨.type "dict", none, .dict te0 tn0, #[]⟩)
    (yc0 : (ta0 == sysModules) = false)
    (yd0 : tabD K 9 te0.toList = some t_SHORT)
    (ye0 : hashesD te0.toList = hashesT w.params t_SHORT)
    (sup : PySem.W.nsIn K mainGlobals "super" = some none)
    (top : (l.prog.main.scope.names.lookup ("super" : Str)).isSome = false)
    (ea0 : PySem.W.nsIn K mainGlobals "GateError" = some (some (.ref eC0)))
    (eb0 : PySem.W.findIn K (.ref eC0) "__init__" = some (some (.ref ef0)))
    (ec0 : K.lookup ef0 = some ⟨.type "function", eod0, .func (PySem.W.ksFn "__init__" "GateError.__init__" (defArgs es_GateError) (defBody es_GateError) (defScope es_GateError) .none ekV0 edc0 epm0 ean0 (.ref ua0) ect0 ub0), esl0⟩)
    (ed0 : PySem.W.codeIn K (.ref ua0) "GateError.__init__" = true)
    (ee0 : K.lookup ua0 = some ⟨eoc0, eo20, .fields evs0, es20⟩)
    (eg0 : evs0[2]? = some (.str l.prog.main.file etf0))
    (eh0 : K.lookup ub0 = some ⟨eol0, eo30, .cell (some (.ref eC0)), es30⟩)
    (ei0 : errB K eC0 ef0 (.builtin "ValueError.__init__") = true)
    (ea1 : PySem.W.nsIn K mainGlobals "InvalidText" = some (some (.ref eC1)))
    (eb1 : PySem.W.findIn K (.ref eC1) "__init__" = some (some (.ref ef1)))
    (ec1 : K.lookup ef1 = some ⟨.type "function", eod1, .func (PySem.W.ksFn "__init__" "InvalidText.__init__" (defArgs es_InvalidText) (defBody es_InvalidText) (defScope es_InvalidText) .none ekV1 edc1 epm1 ean1 (.ref ua1) ect1 ub1), esl1⟩)
    (ed1 : PySem.W.codeIn K (.ref ua1) "InvalidText.__init__" = true)
    (ee1 : K.lookup ua1 = some ⟨eoc1, eo21, .fields evs1, es21⟩)
    (eg1 : evs1[2]? = some (.str l.prog.main.file etf1))
    (eh1 : K.lookup ub1 = some ⟨eol1, eo31, .cell (some (.ref eC1)), es31⟩)
    (ei1 : errB K eC1 ef1 (.ref ef0) = true)
    (ej1 : PySem.W.mroIn K eC1 (.ref eC0) = some true)
    (ek1 : PySem.W.ks_superIn K eC1 eC0 "__init__" = some (some (.builtin "ValueError.__init__")))
    (esub : subB K [("GateError", eC0), ("InvalidText", eC1)] subE = true) :
    ∃ fd : FuncData, (∀ (s : Shared) (v : Value), BindsTo s fd ⟨[v], []⟩ [("script", v)]) ∧ ∀ base : Heap, K.In base → base.Ns mainGlobals mg → FnOk l.prog w K mg base (L2.CX l.prog w) 60 fa fd ["script"] (spM K mg 1 m_law) := by
  have e := hfa.symm.trans (PySem.W.mg_of X G a19)
  cases e
  have B0 := errB_ok ei0
  have S0 := funS_mk (prog := l.prog) (D := eC0) (st := es_GateError) ec0 ed0 ee0 eg0 eh0 ⟨_, rfl, rfl⟩ rfl rfl rfl (by decide +kernel) rfl rfl rfl rfl (fun _ _ _ => .of_eq rfl)
  have B1 := errB_ok ei1
  have S1 := funS_mk (prog := l.prog) (D := eC1) (st := es_InvalidText) ec1 ed1 ee1 eg1 eh1 ⟨_, rfl, rfl⟩ rfl rfl rfl (by decide +kernel) rfl rfl rfl rfl (fun _ _ _ => .of_eq rfl)
  have hmE : ∀ p ∈ ([("GateError", eC0), ("InvalidText", eC1)] : List (Str × Addr)), mg p.1 = some (.ref p.2) := (fun p hp => by
    simp only [List.mem_cons, List.not_mem_nil, or_false] at hp
    rcases hp with rfl | rfl
    · exact PySem.W.mg_of X G ea0
    · exact PySem.W.mg_of X G ea1)
  have T : Tx l.prog w K mg := ⟨PySem.W.mg_none_of X G z0,
    PySem.W.mg_none_of X G z1,
    PySem.W.mg_none_of X G z2,
    PySem.W.mg_none_of X G z3,
    PySem.W.mg_none_of X G z4,
    PySem.W.mg_none_of X G z5,
    PySem.W.mg_none_of X G z6,
    PySem.W.mg_none_of X G z7,
    PySem.W.mg_none_of X G z8,
    PySem.W.mg_none_of X G z9,
    con_of (PySem.W.mg_of X G y0) yk0,
    con_of (PySem.W.mg_of X G y1) yk1,
    con_of (PySem.W.mg_of X G y2) yk2,
    tab_of (PySem.W.mg_of X G ya0) yb0 yc0 yd0 ye0,
    xfs_ok hmE (fun p hp => by
    simp only [List.mem_cons, List.not_mem_nil, or_false] at hp
    rcases hp with rfl | rfl
    · exact ⟨B0.xf, B0.n1, B0.n2⟩
    · exact ⟨B1.xf, B1.n1, B1.n2⟩),
    subB_ok esub hmE,
    ⟨eC0, PySem.W.mg_of X G ea0, mke1 B0 S0 rfl (fun _ => ⟨_, rfl⟩) (PySem.W.mg_none_of X G sup) top⟩,
    ⟨eC1, PySem.W.mg_of X G ea1, mke2 B0 S0 rfl (fun _ => ⟨_, rfl⟩) B1 S1 rfl (fun _ => ⟨_, rfl⟩) ej1 ek1 (PySem.W.mg_none_of X G sup) top⟩,
    ⟨f0, _, PySem.W.mg_of X G a0, fun_mk (st := s_is_shown_at) l0 c0 k0, (fun_mk (st := s_is_shown_at) l0 c0 k0).binds (ps := ["value", "deep"]) fun _ _ _ _ _ _ us hl => match us, hl with | [_, _], _ => rfl⟩,
    ⟨f1, _, PySem.W.mg_of X G a1, fun_mk (st := s_is_shown) l1 c1 k1, (fun_mk (st := s_is_shown) l1 c1 k1).binds (ps := ["value"]) fun _ _ _ _ _ _ us hl => match us, hl with | [_], _ => rfl⟩,
    ⟨f2, _, PySem.W.mg_of X G a2, fun_mk (st := s_quoted) l2 c2 k2, (fun_mk (st := s_quoted) l2 c2 k2).binds (ps := ["text"]) fun _ _ _ _ _ _ us hl => match us, hl with | [_], _ => rfl⟩,
    ⟨f3, _, PySem.W.mg_of X G a3, fun_mk (st := s_show) l3 c3 k3, (fun_mk (st := s_show) l3 c3 k3).binds (ps := ["value"]) fun _ _ _ _ _ _ us hl => match us, hl with | [_], _ => rfl⟩,
    ⟨f4, _, PySem.W.mg_of X G a4, fun_mk (st := s_skipped) l4 c4 k4, (fun_mk (st := s_skipped) l4 c4 k4).binds (ps := ["text", "at"]) fun _ _ _ _ _ _ us hl => match us, hl with | [_, _], _ => rfl⟩,
    ⟨f5, _, PySem.W.mg_of X G a5, fun_mk (st := s_quote_at) l5 c5 k5, (fun_mk (st := s_quote_at) l5 c5 k5).binds (ps := ["text", "at"]) fun _ _ _ _ _ _ us hl => match us, hl with | [_, _], _ => rfl⟩,
    ⟨f6, _, PySem.W.mg_of X G a6, fun_mk (st := s_integer_at) l6 c6 k6, (fun_mk (st := s_integer_at) l6 c6 k6).binds (ps := ["text", "at"]) fun _ _ _ _ _ _ us hl => match us, hl with | [_, _], _ => rfl⟩,
    ⟨f7, _, PySem.W.mg_of X G a7, fun_mk (st := s_value_at) l7 c7 k7, (fun_mk (st := s_value_at) l7 c7 k7).binds (ps := ["text", "at", "deep"]) fun _ _ _ _ _ _ us hl => match us, hl with | [_, _, _], _ => rfl⟩,
    ⟨f8, _, PySem.W.mg_of X G a8, fun_mk (st := s_tuple_at) l8 c8 k8, (fun_mk (st := s_tuple_at) l8 c8 k8).binds (ps := ["text", "at", "deep"]) fun _ _ _ _ _ _ us hl => match us, hl with | [_, _, _], _ => rfl⟩,
    ⟨f9, _, PySem.W.mg_of X G a9, fun_mk (st := s_read_shown) l9 c9 k9, (fun_mk (st := s_read_shown) l9 c9 k9).binds (ps := ["text"]) fun _ _ _ _ _ _ us hl => match us, hl with | [_], _ => rfl⟩,
    ⟨f10, _, PySem.W.mg_of X G a10, fun_mk (st := s__law_next) l10 c10 k10, (fun_mk (st := s__law_next) l10 c10 k10).binds (ps := ["tape", "many"]) fun _ _ _ _ _ _ us hl => match us, hl with | [_, _], _ => rfl⟩,
    ⟨f11, _, PySem.W.mg_of X G a11, fun_mk (st := s__law_same) l11 c11 k11, (fun_mk (st := s__law_same) l11 c11 k11).binds (ps := ["told", "due"]) fun _ _ _ _ _ _ us hl => match us, hl with | [_, _], _ => rfl⟩,
    ⟨f12, _, PySem.W.mg_of X G a12, fun_mk (st := s__law_draw) l12 c12 k12, (fun_mk (st := s__law_draw) l12 c12 k12).binds (ps := ["tape", "deep"]) fun _ _ _ _ _ _ us hl => match us, hl with | [_, _], _ => rfl⟩,
    ⟨f13, _, PySem.W.mg_of X G a13, fun_mk (st := s__law_quoted) l13 c13 k13, (fun_mk (st := s__law_quoted) l13 c13 k13).binds (ps := ["text"]) fun _ _ _ _ _ _ us hl => match us, hl with | [_], _ => rfl⟩,
    ⟨f14, _, PySem.W.mg_of X G a14, fun_mk (st := s__law_show) l14 c14 k14, (fun_mk (st := s__law_show) l14 c14 k14).binds (ps := ["value", "gap"]) fun _ _ _ _ _ _ us hl => match us, hl with | [_, _], _ => rfl⟩,
    ⟨f15, _, PySem.W.mg_of X G a15, fun_mk (st := s__law_skip) l15 c15 k15, (fun_mk (st := s__law_skip) l15 c15 k15).binds (ps := ["text", "at"]) fun _ _ _ _ _ _ us hl => match us, hl with | [_, _], _ => rfl⟩,
    ⟨f16, _, PySem.W.mg_of X G a16, fun_mk (st := s__law_read) l16 c16 k16, (fun_mk (st := s__law_read) l16 c16 k16).binds (ps := ["text", "at", "deep"]) fun _ _ _ _ _ _ us hl => match us, hl with | [_, _, _], _ => rfl⟩,
    ⟨f17, _, PySem.W.mg_of X G a17, fun_mk (st := s__law_whole) l17 c17 k17, (fun_mk (st := s__law_whole) l17 c17 k17).binds (ps := ["text"]) fun _ _ _ _ _ _ us hl => match us, hl with | [_], _ => rfl⟩,
    ⟨f18, _, PySem.W.mg_of X G a18, fun_mk (st := s__law_asked) l18 c18 k18, (fun_mk (st := s__law_asked) l18 c18 k18).binds (ps := ["text"]) fun _ _ _ _ _ _ us hl => match us, hl with | [_], _ => rfl⟩⟩
  exact ⟨_, fun s v => .of_eq rfl, fun base _ _ => (fm_law T (fun_mk (st := s_law) l19 c19 k19)).ok⟩
end K02
open PySem PySem.W PyProof.Rows
set_option maxRecDepth 100000 in
set_option maxHeartbeats 0 in
theorem PySem.Challenge.cw_downtogates_k02_whole_values_as_texts_holds : PySem.Challenge.rw_downtogates_k02_whole_values_as_texts.Holds := by
  w_on; o_law; k_head; (case hw => w_witness2)
  k_fill
  refine MP.law_walk (l := PySem.Challenge.rw_downtogates_k02_whole_values_as_texts) (k := 60) (x := "script") (m := K02.m_law) rfl rfl ⟨rfl, by decide, by decide⟩ (fun w h Y => PySem.W.kIn_of Y) ?F (fun ns hl => K02.law_holds ns hl)
  case F =>
    intro w mg fa h KX G hmg
    refine' K02.all_mk KX G hmg ?a0 ?l0 ?c0 ?k0 ?a1 ?l1 ?c1 ?k1 ?a2 ?l2 ?c2 ?k2 ?a3 ?l3 ?c3 ?k3 ?a4 ?l4 ?c4 ?k4 ?a5 ?l5 ?c5 ?k5 ?a6 ?l6 ?c6 ?k6 ?a7 ?l7 ?c7 ?k7 ?a8 ?l8 ?c8 ?k8 ?a9 ?l9 ?c9 ?k9 ?a10 ?l10 ?c10 ?k10 ?a11 ?l11 ?c11 ?k11 ?a12 ?l12 ?c12 ?k12 ?a13 ?l13 ?c13 ?k13 ?a14 ?l14 ?c14 ?k14 ?a15 ?l15 ?c15 ?k15 ?a16 ?l16 ?c16 ?k16 ?a17 ?l17 ?c17 ?k17 ?a18 ?l18 ?c18 ?k18 ?a19 ?l19 ?c19 ?k19 ?z0 ?z1 ?z2 ?z3 ?z4 ?z5 ?z6 ?z7 ?z8 ?z9 ?y0 ?yk0 ?y1 ?yk1 ?y2 ?yk2 ?ya0 ?yb0 ?yc0 ?yd0 ?ye0 ?sup ?top ?ea0 ?eb0 ?ec0 ?ed0 ?ee0 ?eg0 ?eh0 ?ei0 ?ea1 ?eb1 ?ec1 ?ed1 ?ee1 ?eg1 ?eh1 ?ei1 ?ej1 ?ek1 ?esub
    (case a0 => k_is)
    (case l0 => k_is)
    (case c0 => k_is)
    (case k0 => k_is)
    (case a1 => k_is)
    (case l1 => k_is)
    (case c1 => k_is)
    (case k1 => k_is)
    (case a2 => k_is)
    (case l2 => k_is)
    (case c2 => k_is)
    (case k2 => k_is)
    (case a3 => k_is)
    (case l3 => k_is)
    (case c3 => k_is)
    (case k3 => k_is)
    (case a4 => k_is)
    (case l4 => k_is)
    (case c4 => k_is)
    (case k4 => k_is)
    (case a5 => k_is)
    (case l5 => k_is)
    (case c5 => k_is)
    (case k5 => k_is)
    (case a6 => k_is)
    (case l6 => k_is)
    (case c6 => k_is)
    (case k6 => k_is)
    (case a7 => k_is)
    (case l7 => k_is)
    (case c7 => k_is)
    (case k7 => k_is)
    (case a8 => k_is)
    (case l8 => k_is)
    (case c8 => k_is)
    (case k8 => k_is)
    (case a9 => k_is)
    (case l9 => k_is)
    (case c9 => k_is)
    (case k9 => k_is)
    (case a10 => k_is)
    (case l10 => k_is)
    (case c10 => k_is)
    (case k10 => k_is)
    (case a11 => k_is)
    (case l11 => k_is)
    (case c11 => k_is)
    (case k11 => k_is)
    (case a12 => k_is)
    (case l12 => k_is)
    (case c12 => k_is)
    (case k12 => k_is)
    (case a13 => k_is)
    (case l13 => k_is)
    (case c13 => k_is)
    (case k13 => k_is)
    (case a14 => k_is)
    (case l14 => k_is)
    (case c14 => k_is)
    (case k14 => k_is)
    (case a15 => k_is)
    (case l15 => k_is)
    (case c15 => k_is)
    (case k15 => k_is)
    (case a16 => k_is)
    (case l16 => k_is)
    (case c16 => k_is)
    (case k16 => k_is)
    (case a17 => k_is)
    (case l17 => k_is)
    (case c17 => k_is)
    (case k17 => k_is)
    (case a18 => k_is)
    (case l18 => k_is)
    (case c18 => k_is)
    (case k18 => k_is)
    (case a19 => k_is)
    (case l19 => k_is)
    (case c19 => k_is)
    (case k19 => k_is)
    (case z0 => k_is)
    (case z1 => k_is)
    (case z2 => k_is)
    (case z3 => k_is)
    (case z4 => k_is)
    (case z5 => k_is)
    (case z6 => k_is)
    (case z7 => k_is)
    (case z8 => k_is)
    (case z9 => k_is)
    (case y0 => k_is)
    (case yk0 => kernel_rfl)
    (case y1 => k_is)
    (case yk1 => kernel_rfl)
    (case y2 => k_is)
    (case yk2 => kernel_rfl)
    (case ya0 => k_is)
    (case yb0 => k_is)
    (case yc0 => kernel_rfl)
    (case yd0 => kernel_rfl)
    (case ye0 => kernel_rfl)
    (case sup => k_is)
    (case top => first | rfl | kernel_rfl)
    (case ea0 => k_is)
    (case eb0 => k_is)
    (case ec0 => k_is)
    (case ed0 => k_is)
    (case ee0 => k_is)
    (case eg0 => rfl)
    (case eh0 => k_is)
    (case ei0 => kernel_rfl)
    (case ea1 => k_is)
    (case eb1 => k_is)
    (case ec1 => k_is)
    (case ed1 => k_is)
    (case ee1 => k_is)
    (case eg1 => rfl)
    (case eh1 => k_is)
    (case ei1 => kernel_rfl)
    (case ej1 => k_is)
    (case ek1 => kernel_rfl)
    (case esub => kernel_rfl)
