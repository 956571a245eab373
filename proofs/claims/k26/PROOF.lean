import PyProof.Rows.All
import Wide.All
import OpenK.AllK
import Wide.FinOn
import HandS.ForMost
import HandS.Exc
import HandS.WordsExc
import HandS.CallSlots
import HandS.TupAny
import HandS.TupMul
import HandS.IsInst
import HandS.Flow
import HandS.Wide
import HandS.ExcOwn
import HandS.Style
import HandS.ExcInit
import HandS.ExcSuper
import HandS.ExcField
import HandS.TryMany
import HandS.TryOnly
import KE.KSuper
import KE.KExcSuper
import HandS.ExcIs
import HandS.Dict
import HandS.WordsDict
import HandS.TupLen
import HandS.Text
import HandS.Deep
import HandS.More
import HandS.FStr
import HandS.Strs
import HandS.WrittenGet
import HandS.Iter
import HandS.Zip
import HandS.Rev
import PyProof.EqKinds
import PyProof.FactsAll.bool_1
import PyProof.FactsAll.bool_2
import HandS.SetBool
import HandS.Codes
import HandS.SetKeys
import HandS.SortInts
import HandS.SetFor
import HandS.WideBits
import HandS.DictComp
import PySem.Challenge.RW_downtogates_k26_whole_texts_of_code
set_option Elab.async false
set_option linter.all false
set_option maxRecDepth 100000
set_option maxHeartbeats 8000000
/-! MP: pure meanings of Python expressions and statements, sound for the judgements of HandS. -/
namespace MP
open PySem PySem.Spec PyProof.Rows L2

/-! ### values, stores -/
/-- what a thing of parts is: a dict of ints and texts, a dict of tuples, an instance; its keys or fields -/
inductive Bx where
  | dK (ks : List Key) | dT (ks : List (List Key)) | ins (c : Str) (fs : List Str)
deriving Inhabited, DecidableEq
/-- values as trees; a list that is never changed any more is a tree too; `ref` is a changeable object, at a level of the store -/
inductive D where
  | non | bl (b : Bool) | int (i : Int) | str (x : Str) | ty (n : String)
  | tup (xs : List D) | lst (xs : List D) | rol (xs : List D) | box (b : Bx) (xs : List D) | ref (l i : Nat)
deriving Inhabited

/-- changeable objects -/
inductive O where
  | lst (xs : List D)
  | box (b : Bx) (xs : List D)
  | dead

/-- where the changeable objects stand; what is private to a loop that fills a new list -/
structure Phi where
  r : List (List Addr)
  p : List Addr
abbrev Sto := List (List O)

section
variable {α : Type}
/-- levels are counted from the bottom, the top level stands first -/
def look : List (List α) → Nat → Nat → Option α
  | [], _, _ => none
  | r :: rs, l, i => if l = rs.length then r[i]? else look rs l i
def put : List (List α) → Nat → Nat → α → List (List α)
  | [], _, _, _ => []
  | r :: rs, l, i, o => if l = rs.length then r.set i o :: rs else r :: put rs l i o
theorem look_ge : ∀ {rs : List (List α)} {l i : Nat}, rs.length ≤ l → look rs l i = none
  | [], _, _, _ => rfl
  | r :: rs, l, i, h => by
    simp only [List.length_cons] at h
    rw [look, if_neg (by omega)]
    exact look_ge (by omega)
theorem look_lt {rs : List (List α)} {l i : Nat} {a : α} (h : look rs l i = some a) : l < rs.length := by
  apply Classical.byContradiction
  intro n
  rw [look_ge (by omega)] at h
  cases h
@[simp] theorem look_top (r : List α) (rs : List (List α)) (i : Nat) : look (r :: rs) rs.length i = r[i]? := by
  rw [look, if_pos rfl]
theorem look_low (r : List α) {rs : List (List α)} {l : Nat} (i : Nat) (h : l < rs.length) : look (r :: rs) l i = look rs l i := by
  rw [look, if_neg (by omega)]
theorem look_push (r : List α) {rs : List (List α)} {l i : Nat} {a : α} (h : look rs l i = some a) : look (r :: rs) l i = some a := by
  rw [look_low r i (look_lt h)]; exact h
theorem put_length : ∀ (rs : List (List α)) (l i : Nat) (o : α), (put rs l i o).length = rs.length
  | [], _, _, _ => rfl
  | r :: rs, l, i, o => by
    rw [put]
    split
    · rfl
    · simp only [List.length_cons, put_length rs l i o]
theorem look_put_same : ∀ {rs : List (List α)} {l i : Nat} {a : α} (o : α), look rs l i = some a → look (put rs l i o) l i = some o
  | [], _, _, _, _, h => by cases h
  | r :: rs, l, i, a, o, h => by
    rw [look] at h
    rw [put]
    split
    · rename_i e
      rw [if_pos e] at h
      rw [look, if_pos e]
      have := (List.getElem?_eq_some_iff.mp h).1
      simp [this]
    · rename_i e
      rw [if_neg e] at h
      rw [look, put_length, if_neg e]
      exact look_put_same o h
theorem look_put_ne : ∀ {rs : List (List α)} {l i l' i' : Nat} (o : α), ¬ (l' = l ∧ i' = i) → look (put rs l i o) l' i' = look rs l' i'
  | [], _, _, _, _, _, _ => rfl
  | r :: rs, l, i, l', i', o, h => by
    rw [put]
    split
    · rename_i e
      rw [look, look]
      split
      · rename_i e'
        rw [List.getElem?_set_ne]
        intro z
        exact h ⟨by omega, z.symm⟩
      · rfl
    · rename_i e
      rw [look, look, put_length]
      split
      · rfl
      · exact look_put_ne o h
theorem put_shape : ∀ (rs : List (List α)) (l i : Nat) (o : α), (put rs l i o).map List.length = rs.map List.length
  | [], _, _, _ => rfl
  | r :: rs, l, i, o => by
    rw [put]
    split
    · simp
    · simp only [List.map_cons, put_shape rs l i o]
theorem look_of_shape {β : Type} : ∀ {rs : List (List α)} {qs : List (List β)} {l i : Nat} {a : α}, rs.map List.length = qs.map List.length → look rs l i = some a → ∃ b, look qs l i = some b
  | [], _, _, _, _, _, h => by cases h
  | r :: rs, [], _, _, _, e, _ => by simp at e
  | r :: rs, q :: qs, l, i, a, e, h => by
    simp only [List.map_cons, List.cons.injEq] at e
    have e2 : rs.length = qs.length := by have := congrArg List.length e.2; simpa using this
    rw [look] at h ⊢
    rw [← e2]
    split
    · rename_i z
      rw [if_pos z] at h
      have h1 := (List.getElem?_eq_some_iff.mp h).1
      rw [e.1] at h1
      exact ⟨q[i], by simp [h1]⟩
    · rename_i z
      rw [if_neg z] at h
      exact look_of_shape e.2 h
end

mutual
/-- all references within lie at the level or below -/
def D.le (l : Nat) : D → Bool
  | .ref k _ => decide (k ≤ l)
  | .tup xs => D.les l xs
  | .lst xs => D.les l xs
  | .rol xs => D.les l xs
  | .box _ xs => D.les l xs
  | _ => true
def D.les (l : Nat) : List D → Bool
  | [] => true
  | x :: xs => D.le l x && D.les l xs
end
def O.le (l : Nat) : O → Bool
  | .lst xs => D.les l xs
  | .box _ xs => D.les l xs
  | .dead => true

/-! ### the relation between a tree and what stands in the heap -/
def Away (φ : Phi) (a : Addr) : Prop := (∀ l i, look φ.r l i ≠ some a) ∧ a ∉ φ.p
def FT (K : PySem.W.Frag) (φ : Phi) (H : Hp) (a : Addr) (vs : List V) : Prop := (Rd H a (.tup vs) ∧ Away φ a) ∨ SqT K (fun _ => none) a vs
def FR (K : PySem.W.Frag) (φ : Phi) (H : Hp) (a : Addr) (vs : List V) : Prop := (Rd H a (.lst vs) ∧ Away φ a) ∨ SqL K (fun _ => none) a vs
theorem sqT_none {K : PySem.W.Frag} {H : Hp} {a : Addr} {vs : List V} (h : SqT K (fun _ => none) a vs) : SqT K H a vs := by
  rcases h with (h | ⟨o, h⟩) | h
  · cases h
  · cases h
  · exact .inr h
theorem sqL_none {K : PySem.W.Frag} {H : Hp} {a : Addr} {vs : List V} (h : SqL K (fun _ => none) a vs) : SqL K H a vs := by
  rcases h with (h | ⟨o, h⟩) | h
  · cases h
  · cases h
  · exact .inr h
theorem FT.sq {K : PySem.W.Frag} {φ : Phi} {H : Hp} {a : Addr} {vs : List V} (h : FT K φ H a vs) : SqT K H a vs := by
  rcases h with ⟨h, _⟩ | h
  · exact .inl h
  · exact sqT_none h
theorem FR.sq {K : PySem.W.Frag} {φ : Phi} {H : Hp} {a : Addr} {vs : List V} (h : FR K φ H a vs) : SqL K H a vs := by
  rcases h with ⟨h, _⟩ | h
  · exact .inl h
  · exact sqL_none h

/-- a thing of parts at a -/
def Bx.at (K : PySem.W.Frag) (φ : Phi) (H : Hp) (a : Addr) (vs : List V) : Bx → Prop
  | .dK ks => ks.length = vs.length ∧ H a = some (.dK (ks.zip vs))
  | .dT ks => ks.length = vs.length ∧ H a = some (.dT (ks.zip vs))
  | .ins c fs => fs.length = vs.length ∧ ∃ C dx, H a = some (.ins C dx (fs.zip vs)) ∧ H dx = some (.own a) ∧ Away φ dx ∧ (PySem.W.clsIn K C).map (·.name) = some c
theorem Bx.at.tr {K : PySem.W.Frag} {φ φ' : Phi} {H H' : Hp} {a : Addr} {vs : List V} {b : Bx} (h : b.at K φ H a vs) (ha : ∀ o, H a = some o → H' a = some o) (st : ∀ a o, H a = some o → Away φ a → H' a = some o ∧ Away φ' a) : b.at K φ' H' a vs := by
  cases b with
  | dK ks => exact ⟨h.1, ha _ h.2⟩
  | dT ks => exact ⟨h.1, ha _ h.2⟩
  | ins c fs =>
    obtain ⟨h1, C, dx, h2, h3, h4, h5⟩ := h
    exact ⟨h1, C, dx, ha _ h2, (st _ _ h3 h4).1, (st _ _ h3 h4).2, h5⟩

section
variable (K : PySem.W.Frag) (φ : Phi) (H : Hp)
mutual
inductive Rel : D → V → Prop
  | non : Rel .non .non
  | bl (b : Bool) : Rel (.bl b) (.bl b)
  | int (i : Int) : Rel (.int i) (.int i)
  | str (x : Str) : Rel (.str x) (.str x)
  | ty (n : String) : Rel (.ty n) (.ty n)
  | tup {a : Addr} {vs : List V} {ds : List D} : vs.length ≤ sizeLine → FT K φ H a vs → RelL ds vs → Rel (.tup ds) (.ref a)
  | lst {a : Addr} {vs : List V} {ds : List D} : vs.length ≤ sizeLine → H a = some (.lst vs) → Away φ a → RelL ds vs → Rel (.lst ds) (.ref a)
  | rol {a : Addr} {vs : List V} {ds : List D} : vs.length ≤ sizeLine → FR K φ H a vs → RelL ds vs → Rel (.rol ds) (.ref a)
  | box {a : Addr} {vs : List V} {ds : List D} {b : Bx} : b.at K φ H a vs → H a ≠ none → Away φ a → RelL ds vs → Rel (.box b ds) (.ref a)
  | ref {l i : Nat} {a : Addr} : look φ.r l i = some a → Rel (.ref l i) (.ref a)
inductive RelL : List D → List V → Prop
  | nil : RelL [] []
  | cons {d : D} {v : V} {ds : List D} {vs : List V} : Rel d v → RelL ds vs → RelL (d :: ds) (v :: vs)
end
end

structure Le (φ : Phi) (H : Hp) (φ' : Phi) (H' : Hp) : Prop where
  dep : φ'.r.length = φ.r.length
  grow : ∀ l i a, look φ.r l i = some a → look φ'.r l i = some a
  stay : ∀ a o, H a = some o → Away φ a → H' a = some o ∧ Away φ' a
  prv : ∀ a, a ∈ φ.p → a ∈ φ'.p
  pst : ∀ a o, a ∈ φ.p → H a = some o → H' a = some o
theorem Le.refl (φ : Phi) (H : Hp) : Le φ H φ H := ⟨rfl, fun _ _ _ h => h, fun _ _ h w => ⟨h, w⟩, fun _ h => h, fun _ _ _ h => h⟩
theorem Le.trans {φ φ1 φ2 : Phi} {H H1 H2 : Hp} (a : Le φ H φ1 H1) (b : Le φ1 H1 φ2 H2) : Le φ H φ2 H2 :=
  ⟨b.dep.trans a.dep, fun l i x h => b.grow l i x (a.grow l i x h), fun x o h w => let ⟨h1, w1⟩ := a.stay x o h w; b.stay x o h1 w1, fun x h => b.prv x (a.prv x h), fun x o h e => b.pst x o (a.prv x h) (a.pst x o h e)⟩
theorem Le.rd {φ φ' : Phi} {H H' : Hp} (e : Le φ H φ' H') {a : Addr} {u : HO} (h : Rd H a u) (w : Away φ a) : Rd H' a u ∧ Away φ' a := by
  rcases h with h | ⟨o, h⟩
  · obtain ⟨h1, w1⟩ := e.stay a _ h w
    exact ⟨.inl h1, w1⟩
  · obtain ⟨h1, w1⟩ := e.stay a _ h w
    exact ⟨.inr ⟨o, h1⟩, w1⟩

/-- what stands away stays -/
abbrev Stays (φ : Phi) (H : Hp) (φ' : Phi) (H' : Hp) : Prop := ∀ a o, H a = some o → Away φ a → H' a = some o ∧ Away φ' a
abbrev Grows (φ φ' : Phi) : Prop := ∀ l i a, look φ.r l i = some a → look φ'.r l i = some a
theorem Stays.rd {φ φ' : Phi} {H H' : Hp} (e : Stays φ H φ' H') {a : Addr} {u : HO} (h : Rd H a u) (w : Away φ a) : Rd H' a u ∧ Away φ' a := by
  rcases h with h | ⟨o, h⟩
  · obtain ⟨h1, w1⟩ := e a _ h w
    exact ⟨.inl h1, w1⟩
  · obtain ⟨h1, w1⟩ := e a _ h w
    exact ⟨.inr ⟨o, h1⟩, w1⟩
theorem Stays.away {φ φ' : Phi} {H H' : Hp} (e : Stays φ H φ' H') {a : Addr} (h : H a ≠ none) (w : Away φ a) : H' a ≠ none ∧ Away φ' a ∧ ∀ o, H a = some o → H' a = some o := by
  cases q : H a with
  | none => exact absurd q h
  | some o =>
    obtain ⟨h1, w1⟩ := e a _ q w
    exact ⟨by rw [h1]; simp, w1, fun o' z => by cases z; exact h1⟩
section
variable {K : PySem.W.Frag} {φ φ' : Phi} {H H' : Hp}
mutual
theorem Rel.tr (st : Stays φ H φ' H') (gr : Grows φ φ') : ∀ {d : D} {v : V}, Rel K φ H d v → Rel K φ' H' d v
  | _, _, .non => .non
  | _, _, .bl b => .bl b
  | _, _, .int i => .int i
  | _, _, .str x => .str x
  | _, _, .ty n => .ty n
  | _, _, .tup z f r => .tup z (by
      rcases f with ⟨f, w⟩ | f
      · exact .inl (Stays.rd st f w)
      · exact .inr f) (RelL.tr st gr r)
  | _, _, .lst z f w r => .lst z (st _ _ f w).1 (st _ _ f w).2 (RelL.tr st gr r)
  | _, _, .rol z f r => .rol z (by
      rcases f with ⟨f, w⟩ | f
      · exact .inl (Stays.rd st f w)
      · exact .inr f) (RelL.tr st gr r)
  | _, _, .box b n w r => .box (b.tr (Stays.away st n w).2.2 st) (Stays.away st n w).1 (Stays.away st n w).2.1 (RelL.tr st gr r)
  | _, _, .ref h => .ref (gr _ _ _ h)
theorem RelL.tr (st : Stays φ H φ' H') (gr : Grows φ φ') : ∀ {ds : List D} {vs : List V}, RelL K φ H ds vs → RelL K φ' H' ds vs
  | _, _, .nil => .nil
  | _, _, .cons h r => .cons (Rel.tr st gr h) (RelL.tr st gr r)
end
theorem Rel.mono (e : Le φ H φ' H') {d : D} {v : V} (h : Rel K φ H d v) : Rel K φ' H' d v := h.tr e.stay e.grow
theorem RelL.mono (e : Le φ H φ' H') {ds : List D} {vs : List V} (h : RelL K φ H ds vs) : RelL K φ' H' ds vs := h.tr e.stay e.grow
theorem RelL.length : ∀ {ds : List D} {vs : List V}, RelL K φ H ds vs → ds.length = vs.length
  | _, _, .nil => rfl
  | _, _, .cons _ r => by simp [RelL.length r]
theorem RelL.get : ∀ {ds : List D} {vs : List V} {i : Nat} {d : D}, RelL K φ H ds vs → ds[i]? = some d → ∃ v, vs[i]? = some v ∧ Rel K φ H d v
  | _, _, _, _, .nil, e => by simp at e
  | _, _, 0, _, .cons r _, e => by simp at e; subst e; exact ⟨_, rfl, r⟩
  | _, _, i + 1, d, .cons _ t, e => by
    obtain ⟨u, h1, h2⟩ := RelL.get (i := i) (d := d) t (by simpa using e)
    exact ⟨u, by simpa using h1, h2⟩
theorem RelL.get' : ∀ {ds : List D} {vs : List V} {i : Nat} {v : V}, RelL K φ H ds vs → vs[i]? = some v → ∃ d, ds[i]? = some d ∧ Rel K φ H d v
  | _, _, _, _, .nil, e => by simp at e
  | _, _, 0, _, .cons r _, e => by simp at e; subst e; exact ⟨_, rfl, r⟩
  | _, _, i + 1, v, .cons _ t, e => by
    obtain ⟨u, h1, h2⟩ := RelL.get' (i := i) (v := v) t (by simpa using e)
    exact ⟨u, by simpa using h1, h2⟩
theorem RelL.append : ∀ {ds es : List D} {vs ws : List V}, RelL K φ H ds vs → RelL K φ H es ws → RelL K φ H (ds ++ es) (vs ++ ws)
  | _, _, _, _, .nil, s => s
  | _, _, _, _, .cons r t, s => .cons r (RelL.append t s)
theorem RelL.take : ∀ {ds : List D} {vs : List V} (n : Nat), RelL K φ H ds vs → RelL K φ H (ds.take n) (vs.take n)
  | _, _, 0, _ => by simp; exact .nil
  | _, _, n + 1, .nil => .nil
  | _, _, n + 1, .cons r t => .cons r (RelL.take n t)
theorem RelL.drop : ∀ {ds : List D} {vs : List V} (n : Nat), RelL K φ H ds vs → RelL K φ H (ds.drop n) (vs.drop n)
  | _, _, 0, r => r
  | _, _, n + 1, .nil => .nil
  | _, _, n + 1, .cons _ t => RelL.drop n t
theorem RelL.set {d : D} {v : V} (q : Rel K φ H d v) : ∀ {ds : List D} {vs : List V} (n : Nat), RelL K φ H ds vs → RelL K φ H (ds.set n d) (vs.set n v)
  | _, _, _, .nil => .nil
  | _, _, 0, .cons r t => .cons q t
  | _, _, n + 1, .cons r t => .cons r (RelL.set q n t)
theorem RelL.reps {ds : List D} {vs : List V} (h : RelL K φ H ds vs) : ∀ k : Nat, RelL K φ H (List.replicate k ds).flatten (List.replicate k vs).flatten
  | 0 => .nil
  | k + 1 => by
    rw [List.replicate_succ, List.replicate_succ, List.flatten_cons, List.flatten_cons]
    exact h.append (RelL.reps h k)
theorem RelL.ints : ∀ (ns : List Int), RelL K φ H (ns.map D.int) (ns.map V.int)
  | [] => .nil
  | n :: ns => .cons (.int n) (RelL.ints ns)
theorem RelL.ints_inv : ∀ {ns : List Int} {vs : List V}, RelL K φ H (ns.map D.int) vs → vs = ns.map V.int
  | [], _, .nil => rfl
  | n :: ns, _, .cons h r => by
    cases h
    rw [RelL.ints_inv r]
    rfl
theorem RelL.bls_inv : ∀ {ns : List Bool} {vs : List V}, RelL K φ H (ns.map D.bl) vs → vs = ns.map V.bl
  | [], _, .nil => rfl
  | n :: ns, _, .cons h r => by
    cases h
    rw [RelL.bls_inv r]
    rfl
end

/-- an object of the store and its address -/
def RO (K : PySem.W.Frag) (φ : Phi) (H : Hp) : O → Addr → Prop
  | .lst ds, a => ∃ vs, H a = some (.lst vs) ∧ vs.length ≤ sizeLine ∧ RelL K φ H ds vs
  | .box b ds, a => ∃ vs, b.at K φ H a vs ∧ RelL K φ H ds vs
  | .dead, _ => True
theorem RO.tr {K : PySem.W.Frag} {φ φ' : Phi} {H H' : Hp} (st : Stays φ H φ' H') (gr : Grows φ φ') : ∀ {o : O} {a : Addr}, (∀ u, H a = some u → H' a = some u) → RO K φ H o a → RO K φ' H' o a
  | .lst ds, a, ha, ⟨vs, h, z, r⟩ => ⟨vs, ha _ h, z, r.tr st gr⟩
  | .box b ds, a, ha, ⟨vs, h, r⟩ => ⟨vs, h.tr ha st, r.tr st gr⟩
  | .dead, _, _, _ => trivial
structure RS (K : PySem.W.Frag) (φ : Phi) (H : Hp) (S : Sto) : Prop where
  shape : φ.r.map List.length = S.map List.length
  obj : ∀ l i o a, look S l i = some o → look φ.r l i = some a → RO K φ H o a
  inj : ∀ l i l' i' a, look φ.r l i = some a → look φ.r l' i' = some a → l = l' ∧ i = i'
  lev : ∀ l i o, look S l i = some o → o.le l = true
  trk : ∀ l i a, look φ.r l i = some a → H a ≠ none
  ptrk : ∀ a, a ∈ φ.p → H a ≠ none
  dis : ∀ l i a, look φ.r l i = some a → a ∉ φ.p
section
variable {K : PySem.W.Frag} {φ φ' : Phi} {H H' : Hp} {S : Sto}
theorem RS.dep (h : RS K φ H S) : φ.r.length = S.length := by
  have := congrArg List.length h.shape
  simpa using this
theorem RS.fresh (h : RS K φ H S) {p : Addr} (hp : H p = none) : Away φ p := ⟨fun l i e => h.trk l i p e hp, fun e => h.ptrk p e hp⟩
theorem RS.at (h : RS K φ H S) {l i : Nat} {o : O} (e : look S l i = some o) : ∃ a, look φ.r l i = some a ∧ RO K φ H o a := by
  obtain ⟨a, ha⟩ := look_of_shape h.shape.symm e
  exact ⟨a, ha, h.obj l i o a e ha⟩
/-- a new thing that is never changed -/
theorem Le.laid {p : Addr} {o : HO} (h : RS K φ H S) (hp : H p = none) : Le φ H φ (upd H p o) :=
  ⟨rfl, fun _ _ _ e => e, fun a u e w => ⟨by rw [upd_ne (ne_of_none e hp)]; exact e, w⟩, fun _ e => e, fun a u _ e => by rw [upd_ne (ne_of_none e hp)]; exact e⟩
theorem Le.fresh {p : Addr} {o : HO} (hp : H p = none) : Le φ H φ (upd H p o) :=
  ⟨rfl, fun _ _ _ e => e, fun a u e w => ⟨by rw [upd_ne (ne_of_none e hp)]; exact e, w⟩, fun _ e => e, fun a u _ e => by rw [upd_ne (ne_of_none e hp)]; exact e⟩
theorem upd_some {H : Hp} {p a : Addr} {o u : HO} (hp : H p = none) (h : H a = some u) : upd H p o a = some u := by
  rw [upd_ne (ne_of_none h hp)]; exact h
mutual
theorem Rel.laid {p : Addr} {o : HO} (hp : H p = none) : ∀ {d : D} {v : V}, Rel K φ H d v → Rel K φ (upd H p o) d v := fun h => h.mono (Le.fresh hp)
theorem RelL.laid {p : Addr} {o : HO} (hp : H p = none) : ∀ {ds : List D} {vs : List V}, RelL K φ H ds vs → RelL K φ (upd H p o) ds vs := fun h => h.mono (Le.fresh hp)
end
theorem RO.laid {p : Addr} {u : HO} (hp : H p = none) {o : O} {a : Addr} (h : RO K φ H o a) : RO K φ (upd H p u) o a := h.tr (Le.fresh (o := u) hp).stay (fun _ _ _ e => e) fun _ e => upd_some hp e
theorem RS.laid {p : Addr} {u : HO} (h : RS K φ H S) (hp : H p = none) : RS K φ (upd H p u) S :=
  ⟨h.shape, fun l i o a e1 e2 => (h.obj l i o a e1 e2).laid hp, h.inj, h.lev, fun l i a e => by
    have := h.trk l i a e
    cases q : H a with
    | none => exact absurd q this
    | some o => rw [upd_some hp q]; simp, fun a e => by
    have := h.ptrk a e
    cases q : H a with
    | none => exact absurd q this
    | some o => rw [upd_some hp q]; simp, h.dis⟩
end

/-! ### what an expression means -/
structure Exn where
  c : Str
  fs : List (Str × D)
inductive R (α : Type) where
  | ok (a : α) (S : Sto)
  | err (x : Exn) (S : Sto)
  | bad
def R.bind {α β : Type} (r : R α) (f : α → Sto → R β) : R β := match r with
  | .ok a S => f a S
  | .err x S => .err x S
  | .bad => .bad
@[simp] theorem R.bind_ok {α β : Type} (a : α) (S : Sto) (f : α → Sto → R β) : (R.ok a S).bind f = f a S := (rfl)
@[simp] theorem R.bind_err {α β : Type} (x : Exn) (S : Sto) (f : α → Sto → R β) : (R.err x S : R α).bind f = .err x S := (rfl)
@[simp] theorem R.bind_bad {α β : Type} (f : α → Sto → R β) : (R.bad : R α).bind f = .bad := (rfl)
abbrev Ro := List (Option D)
abbrev C := Ro → Sto → R D
abbrev CT := Ro → Sto → R Bool
abbrev CA := Ro → Sto → R (List D)

def RE (K : PySem.W.Frag) (φ : Phi) (H : Hp) (ρ : Ro) (σ : L2.St) : Prop := ρ.length = σ.length ∧ ∀ (i : Nat) (d : D), ρ[i]? = some (some d) → ∃ v, σ[i]? = some (some v) ∧ Rel K φ H d v
theorem RE.mono {K : PySem.W.Frag} {φ φ' : Phi} {H H' : Hp} {ρ : Ro} {σ : L2.St} (h : RE K φ H ρ σ) (e : Le φ H φ' H') : RE K φ' H' ρ σ :=
  ⟨h.1, fun i d q => let ⟨v, a, b⟩ := h.2 i d q; ⟨v, a, b.mono e⟩⟩
theorem RE.set {K : PySem.W.Frag} {φ : Phi} {H : Hp} {ρ : Ro} {σ : L2.St} {d : D} {v : V} (h : RE K φ H ρ σ) (r : Rel K φ H d v) (i : Nat) : RE K φ H (ρ.set i (some d)) (σ.set i (some v)) := by
  refine ⟨by simpa using h.1, fun j d' q => ?_⟩
  by_cases e : i = j
  · subst e
    have hl : i < ρ.length := by
      have := (List.getElem?_eq_some_iff.mp q).1
      simpa using this
    rw [List.getElem?_set_self hl] at q
    cases q
    exact ⟨v, List.getElem?_set_self (by rw [← h.1]; exact hl), r⟩
  · rw [List.getElem?_set_ne e] at q
    rw [List.getElem?_set_ne e]
    exact h.2 j d' q
def RF (K : PySem.W.Frag) (φ : Phi) (H : Hp) (fs : List (Str × D)) (vs : List (Str × V)) : Prop := fs.map (·.1) = vs.map (·.1) ∧ RelL K φ H (fs.map (·.2)) (vs.map (·.2))
/-- an exception of an own class, its own dict -/
def RX (K : PySem.W.Frag) (mg : Str → Option Value) (φ : Phi) (H : Hp) (x : Exn) (cls : Value) (d : Option Addr) : Prop :=
  ∃ a dx vs, cls = .ref a ∧ mg x.c = some (.ref a) ∧ d = some dx ∧ H dx = some (.xd vs) ∧ Away φ dx ∧ RF K φ H x.fs vs

section
variable (K : PySem.W.Frag) (mg : Str → Option Value)
/-- how a result meets a wish; `rel` relates the value -/
def Ok {α β : Type} (rel : Phi → Hp → α → β → Prop) (φ : Phi) (H : Hp) (E : Value → Option Addr → Hp → Prop) (Q : β → Hp → Prop) : R α → Prop
  | .ok d S' => ∀ φ' H' v, Le φ H φ' H' → RS K φ' H' S' → rel φ' H' d v → Q v H'
  | .err x S' => ∀ φ' H' cls dx, Le φ H φ' H' → RS K φ' H' S' → RX K mg φ' H' x cls dx → E cls dx H'
  | .bad => False
end
def eqB (φ : Phi) (H : Hp) (b c : Bool) : Prop := b = c
section
variable {K : PySem.W.Frag} {mg : Str → Option Value} {α β α' β' : Type} {rel : Phi → Hp → α → β → Prop} {rel' : Phi → Hp → α' → β' → Prop} {φ φ' : Phi} {H H' : Hp} {E : Value → Option Addr → Hp → Prop} {Q : β → Hp → Prop} {Q' : β' → Hp → Prop}
theorem Ok.later {r : R α} (e : Le φ H φ' H') (h : Ok K mg rel φ H E Q r) : Ok K mg rel φ' H' E Q r := by
  cases r with
  | ok d S => exact fun φ2 H2 v l s q => h φ2 H2 v (e.trans l) s q
  | err x S => exact fun φ2 H2 c d l s q => h φ2 H2 c d (e.trans l) s q
  | bad => exact h
/-- the first part, then the rest -/
theorem Ok.step {r : R α} {f : α → Sto → R α'} (h : Ok K mg rel' φ H E Q' (r.bind f)) (k : ∀ d S φ1 H1 v, r = .ok d S → Le φ H φ1 H1 → RS K φ1 H1 S → rel φ1 H1 d v → Ok K mg rel' φ1 H1 E Q' (f d S) → Q v H1) : Ok K mg rel φ H E Q r := by
  cases r with
  | ok d S => exact fun φ1 H1 v l s q => k d S φ1 H1 v rfl l s q (Ok.later l h)
  | err x S => exact h
  | bad => exact h
end

section
variable {X : Cx} (W : WX)
abbrev Cx.K' (X : Cx) := X.K
def rdE (X : Cx) (W : WX) (c : C) : TE := fun σ H Q => ∃ ρ φ S, RE X.K φ H ρ σ ∧ RS X.K φ H S ∧ Ok X.K X.mg (Rel X.K) φ H (fun cls d H' => W cls d σ H') Q (c ρ S)
def rdT (X : Cx) (W : WX) (c : CT) : TT := fun σ H Q => ∃ ρ φ S, RE X.K φ H ρ σ ∧ RS X.K φ H S ∧ Ok X.K X.mg eqB φ H (fun cls d H' => W cls d σ H') Q (c ρ S)
def rdA (X : Cx) (W : WX) (c : CA) : TA := fun σ H Q => ∃ ρ φ S, RE X.K φ H ρ σ ∧ RS X.K φ H S ∧ Ok X.K X.mg (RelL X.K) φ H (fun cls d H' => W cls d σ H') Q (c ρ S)
end
structure ME (X : Cx) (W : WX) (e : Expr) (c : C) : Prop where
  pe : PE X e (rdE X W c)
structure MT (X : Cx) (W : WX) (e : Expr) (c : CT) : Prop where
  pt : PT X e (rdT X W c)
structure MW (X : Cx) (W : WX) (e : Expr) (c : CT) : Prop where
  pw : PW X e (rdT X W c)
structure MA (X : Cx) (W : WX) (es : List Expr) (c : CA) : Prop where
  pa : PA X es (rdA X W c)
  len : ∀ ρ S ds S', c ρ S = .ok ds S' → ds.length = es.length
section
variable {X : Cx} {W : WX} {e : Expr} {es : List Expr}
theorem _root_.L2.PE.imp {t u : TE} (h : PE X e t) (k : ∀ σ H Q, u σ H Q → t σ H Q) : PE X e u := ⟨fun pins s σ H Q I z => h.run pins s σ H Q I (k σ H Q z)⟩
theorem _root_.L2.PT.imp {t u : TT} (h : PT X e t) (k : ∀ σ H Q, u σ H Q → t σ H Q) : PT X e u := ⟨fun pins s σ H Q I z => h.run pins s σ H Q I (k σ H Q z)⟩
theorem _root_.L2.PW.imp {t u : TT} (h : PW X e t) (k : ∀ σ H Q, u σ H Q → t σ H Q) : PW X e u := ⟨fun wh pins s σ H Q I z => h.run wh pins s σ H Q I (k σ H Q z)⟩
theorem _root_.L2.PA.imp {t u : TA} (h : PA X es t) (k : ∀ σ H Q, u σ H Q → t σ H Q) : PA X es u := ⟨fun pos pins s σ H Q I z => h.run pos pins s σ H Q I (k σ H Q z)⟩
theorem MW.mt {c : CT} (h : MW X W e c) : MT X W e c := ⟨h.pw.pt⟩
end

/-! ### names, constants -/
def cV (i : Nat) : C := fun ρ S => match ρ[i]? with
  | some (some d) => .ok d S
  | _ => .bad
def cK (d : D) : C := fun _ S => .ok d S
section
variable {X : Cx} {W : WX} {pos : Pos}
theorem me_v (i : Nat) {x : Str} (hN : X.N[i]? = some x := by rfl) (hv : Vis X.env.scope x := by first | exact Or.inl rfl | exact Or.inr (Or.inl rfl) | exact Or.inr (Or.inr rfl)) (hd : (x == ("__debug__" : Str)) = false := by decide)
    (hcd : (x == ("__classdict__" : Str)) = false := by decide) : ME X W (.Name x pos) (cV i) := by
  refine ⟨(pe_var (i := i) hN hv hd hcd).imp fun σ H Q h => ?_⟩
  obtain ⟨ρ, φ, S, he, hs, h⟩ := h
  unfold cV at h
  split at h
  · rename_i d q
    obtain ⟨v, e1, r⟩ := he.2 i d q
    exact ⟨v, e1, h φ H v (Le.refl _ _) hs r⟩
  · exact h.elim
theorem me_c {e : Expr} {d : D} {v : V} (h : PE X e (tC v)) (r : ∀ φ H, Rel X.K φ H d v) : ME X W e (cK d) := by
  refine ⟨h.imp fun σ H Q h => ?_⟩
  obtain ⟨ρ, φ, S, he, hs, h⟩ := h
  exact h φ H v (Le.refl _ _) hs (r φ H)
theorem me_int {i j} : ME X W (.Constant (.int i) j pos) (cK (.int i)) := me_c pe_int fun _ _ => .int i
theorem me_bl {b j} : ME X W (.Constant (.bool b) j pos) (cK (.bl b)) := me_c pe_bl fun _ _ => .bl b
theorem me_non {j} : ME X W (.Constant .none j pos) (cK .non) := me_c pe_non fun _ _ => .non
theorem me_str {x j} : ME X W (.Constant (.str x) j pos) (cK (.str x)) := me_c pe_str fun _ _ => .str x
/-- a module's constant that is no object -/
theorem me_glob {x : Str} {d : D} {v : V} {u : Value} (hg : Gl X x) (hm : X.mg x = some u) (r : RelV v u) (q : ∀ φ H, Rel X.K φ H d v) (hd : (x == ("__debug__" : Str)) = false := by decide) : ME X W (.Name x pos) (cK d) :=
  me_c (pe_glob hg hm r hd) q
end

/-! ### arguments -/
def caNil : CA := fun _ S => .ok [] S
def caCons (a : C) (b : CA) : CA := fun ρ S => (a ρ S).bind fun d S => (b ρ S).bind fun ds S => .ok (d :: ds) S
section
variable {X : Cx} {W : WX} {pos : Pos} {e : Expr} {es : List Expr}
theorem ma_nil : MA X W [] caNil := by
  refine ⟨pa_nil.imp fun σ H Q h => ?_, fun ρ S ds S' h => ?_⟩
  · obtain ⟨ρ, φ, S, he, hs, h⟩ := h
    exact h φ H [] (Le.refl _ _) hs .nil
  · cases h; rfl
theorem ma_cons {a : C} {b : CA} (ha : ME X W e a) (hb : MA X W es b) (hs : starEach (e :: es) X.env = (false, eval e X.env) :: starEach es X.env := by rfl) : MA X W (e :: es) (caCons a b) := by
  refine ⟨(pa_cons ha.pe hb.pa hs).imp fun σ H Q h => ?_, fun ρ S ds S' h => ?_⟩
  · obtain ⟨ρ, φ, S, he, hs, h⟩ := h
    refine ⟨ρ, φ, S, he, hs, h.step fun d S1 φ1 H1 v q l s r h => ?_⟩
    refine ⟨ρ, φ1, S1, he.mono l, s, h.step fun ds S2 φ2 H2 vs q2 l2 s2 r2 h => ?_⟩
    exact h φ2 H2 _ (Le.refl _ _) s2 (.cons (r.mono l2) r2)
  · unfold caCons at h
    cases q : a ρ S with
    | ok d S1 =>
      rw [q, R.bind_ok] at h
      cases q2 : b ρ S1 with
      | ok ds2 S2 =>
        rw [q2, R.bind_ok] at h
        injection h with h1 h2
        rw [← h1]
        simp [hb.len _ _ _ _ q2]
      | err x S2 => rw [q2] at h; cases h
      | bad => rw [q2] at h; cases h
    | err x S1 => rw [q] at h; cases h
    | bad => rw [q] at h; cases h
end

/-! ### operators by values -/
abbrev G2 := D → D → Sto → R D
def cB (g : G2) (a b : C) : C := fun ρ S => (a ρ S).bind fun x S => (b ρ S).bind fun y S => g x y S
def cU (g : D → Sto → R D) (a : C) : C := fun ρ S => (a ρ S).bind fun x S => g x S
/-- an operator of two values has a meaning -/
def OS (X : Cx) (f : Value → Value → Sem Value) (g : G2) : Prop :=
  ∃ r : R2, OpR X f r ∧ ∀ (W : WX) (σ : L2.St) (φ : Phi) (H : Hp) (S : Sto) (x y : D) (vx vy : V) (Q : VK), RS X.K φ H S → Rel X.K φ H x vx → Rel X.K φ H y vy → Ok X.K X.mg (Rel X.K) φ H (fun cls d H' => W cls d σ H') Q (g x y S) → r vx vy H Q
section
variable {X : Cx} {W : WX} {pos : Pos} {a b : Expr} {ca cb : C}
theorem bin_imp {ta : C} {r : R2} {g : G2} {ca cb : C} {σ : L2.St} {H : Hp} {Q : VK}
    (k : ∀ (φ : Phi) (H : Hp) (S : Sto) (x y : D) (vx vy : V), RS X.K φ H S → Rel X.K φ H x vx → Rel X.K φ H y vy → Ok X.K X.mg (Rel X.K) φ H (fun cls d H' => W cls d σ H') Q (g x y S) → r vx vy H Q)
    (h : rdE X W (cB g ca cb) σ H Q) : tOp r (rdE X W ca) (rdE X W cb) σ H Q := by
  obtain ⟨ρ, φ, S, he, hs, h⟩ := h
  refine ⟨ρ, φ, S, he, hs, h.step fun d S1 φ1 H1 v q l s rx h => ?_⟩
  refine ⟨ρ, φ1, S1, he.mono l, s, h.step fun d2 S2 φ2 H2 v2 q2 l2 s2 ry h => ?_⟩
  exact k φ2 H2 S2 d d2 v v2 s2 (rx.mono l2) ry h
theorem me_op {op : Operator} {g : G2} (ho : OS X (binaryOp op) g) (ha : ME X W a ca) (hb : ME X W b cb) : ME X W (.BinOp a op b pos) (cB g ca cb) := by
  obtain ⟨r, hr, k⟩ := ho
  exact ⟨(pe_op hr ha.pe hb.pe).imp fun σ H Q h => bin_imp (ta := ca) (fun φ H S x y vx vy s rx ry z => k W σ φ H S x y vx vy Q s rx ry z) h⟩
theorem me_cmp {op : CmpOp} {g : G2} (ho : OS X (compareOp op) g) (ha : ME X W a ca) (hb : ME X W b cb) (hm : behindInMarks op b = false) : ME X W (.Compare a [op] [b] pos) (cB g ca cb) := by
  obtain ⟨r, hr, k⟩ := ho
  exact ⟨(pe_cmpR hr ha.pe hb.pe hm).imp fun σ H Q h => bin_imp (ta := ca) (fun φ H S x y vx vy s rx ry z => k W σ φ H S x y vx vy Q s rx ry z) h⟩
end
def US (X : Cx) (f : Value → Sem Value) (g : D → Sto → R D) : Prop :=
  ∃ r : V → Hp → VK → Prop, UnR X f r ∧ ∀ (W : WX) (σ : L2.St) (φ : Phi) (H : Hp) (S : Sto) (x : D) (vx : V) (Q : VK), RS X.K φ H S → Rel X.K φ H x vx → Ok X.K X.mg (Rel X.K) φ H (fun cls d H' => W cls d σ H') Q (g x S) → r vx H Q
theorem me_un {X : Cx} {W : WX} {pos : Pos} {a : Expr} {ca : C} {op : UnaryOp} {g : D → Sto → R D} (ho : US X (unaryOp op) g) (ha : ME X W a ca) : ME X W (.UnaryOp op a pos) (cU g ca) := by
  obtain ⟨r, hr, k⟩ := ho
  refine ⟨(pe_un hr ha.pe).imp fun σ H Q h => ?_⟩
  obtain ⟨ρ, φ, S, he, hs, h⟩ := h
  refine ⟨ρ, φ, S, he, hs, h.step fun d S1 φ1 H1 v q l s rx h => ?_⟩
  exact k W σ φ1 H1 S1 d v Q s rx h
end MP

/-! MP: operators, comparisons, tests. -/
namespace MP
open PySem PySem.Spec PyProof.Rows L2

theorem line_ge {n : Nat} (h : n ≤ 16000000) : n ≤ sizeLine := Nat.le_trans h (by rw [sizeLine_eq]; decide)
theorem line_gt {n : Nat} (h : n < 16000000) : n < sizeLine := Nat.lt_of_lt_of_le h (by rw [sizeLine_eq]; decide)

section
variable {X : Cx}
/-- one rule or the other, by the meaning -/
theorem OS.of {f : Value → Value → Sem Value} {g : G2} (r : R2) (hr : OpR X f r) (k : ∀ (W : WX) (σ : L2.St) (φ : Phi) (H : Hp) (S : Sto) (x y : D) (vx vy : V) (Q : VK), RS X.K φ H S → Rel X.K φ H x vx → Rel X.K φ H y vy → Ok X.K X.mg (Rel X.K) φ H (fun cls d H' => W cls d σ H') Q (g x y S) → r vx vy H Q) : OS X f g := ⟨r, hr, k⟩
/-- the same meaning where this one says anything -/
theorem OS.or {f : Value → Value → Sem Value} {g1 g2 g : G2} (h1 : OS X f g1) (h2 : OS X f g2) (e : ∀ x y S, g x y S = g1 x y S ∨ g x y S = g2 x y S) : OS X f g := by
  obtain ⟨r1, a1, k1⟩ := h1
  obtain ⟨r2, a2, k2⟩ := h2
  refine ⟨_, a1.or a2, fun W σ φ H S x y vx vy Q s rx ry z => ?_⟩
  rcases e x y S with e | e
  · rw [e] at z
    exact .inl (k1 W σ φ H S x y vx vy Q s rx ry z)
  · rw [e] at z
    exact .inr (k2 W σ φ H S x y vx vy Q s rx ry z)

/-- ints -/
def g2I (c : Int → Int → Prop) [∀ i j, Decidable (c i j)] (f : Int → Int → D) : G2
  | .int i, .int j, S => if c i j then .ok (f i j) S else .bad
  | _, _, _ => .bad
theorem os_I {f : Value → Value → Sem Value} {c c' : Int → Int → Prop} [∀ i j, Decidable (c i j)] {g : Int → Int → D} {g' : Int → Int → V} (hr : OpR X f (rI c' g')) (hc : ∀ i j, c i j → c' i j) (hg : ∀ φ H i j, Rel X.K φ H (g i j) (g' i j)) : OS X f (g2I c g) := by
  refine ⟨_, hr, fun W σ φ H S x y vx vy Q s rx ry z => ?_⟩
  cases rx <;> try exact z.elim
  cases ry <;> try exact z.elim
  rename_i i j
  unfold g2I at z
  by_cases h : c i j
  · simp only [h, if_true] at z
    exact ⟨i, j, rfl, rfl, hc i j h, z φ H _ (Le.refl _ _) s (hg φ H i j)⟩
  · simp only [h, if_false] at z
    exact z.elim
def g2I0 (f : Int → Int → D) : G2
  | .int i, .int j, S => .ok (f i j) S
  | _, _, _ => .bad
theorem os_I0 {f : Value → Value → Sem Value} {g : Int → Int → D} {g' : Int → Int → V} (hr : OpR X f (rI0 g')) (hg : ∀ φ H i j, Rel X.K φ H (g i j) (g' i j)) : OS X f (g2I0 g) := by
  refine ⟨_, hr, fun W σ φ H S x y vx vy Q s rx ry z => ?_⟩
  cases rx <;> try exact z.elim
  cases ry <;> try exact z.elim
  rename_i i j
  exact ⟨i, j, rfl, rfl, z φ H _ (Le.refl _ _) s (hg φ H i j)⟩

def gSub : G2 := g2I0 fun i j => .int (i - j)
def gAnd : G2 := g2I0 fun i j => .int (Builtin.bitAnd i j)
def gOr : G2 := g2I0 fun i j => .int (Builtin.bitOr i j)
def gXor : G2 := g2I0 fun i j => .int (Builtin.bitXor i j)
def gFdiv : G2 := g2I (fun _ j => 0 < j ∧ j < 1073741824) fun i j => .int (i / j)
def gMod : G2 := g2I (fun _ j => 0 < j) fun i j => .int (i % j)
def gPow : G2 := g2I (fun i j => 0 ≤ j ∧ j ≤ 1000000 ∧ i.natAbs < 18446744073709551616) fun i j => .int (i ^ j.toNat)
def gShl : G2 := g2I (fun i j => 0 ≤ j ∧ j ≤ 1000000 ∧ i.natAbs < 18446744073709551616) fun i j => .int (i * 2 ^ j.toNat)
def gShr : G2 := g2I (fun _ j => 0 ≤ j) fun i j => .int (i / 2 ^ j.toNat)
theorem os_sub : OS X (binaryOp .Sub) gSub := os_I0 op_sub fun _ _ _ _ => .int _
theorem os_and : OS X (binaryOp .BitAnd) gAnd := os_I0 op_and fun _ _ _ _ => .int _
theorem os_or : OS X (binaryOp .BitOr) gOr := os_I0 op_or fun _ _ _ _ => .int _
theorem os_xor : OS X (binaryOp .BitXor) gXor := os_I0 op_xor fun _ _ _ _ => .int _
theorem os_fdiv : OS X (binaryOp .FloorDiv) gFdiv := os_I op_fdiv (fun _ _ h => h) fun _ _ _ _ => .int _
theorem os_mod : OS X (binaryOp .Mod) gMod := os_I op_mod (fun _ _ h => h) fun _ _ _ _ => .int _
theorem pow64 : (18446744073709551616 : Nat) = 2 ^ 64 := by decide
theorem os_pow : OS X (binaryOp .Pow) gPow := os_I op_pow (fun i j h => ⟨h.1, h.2.1, by rw [← pow64]; exact h.2.2⟩) fun _ _ _ _ => .int _
theorem os_shl : OS X (binaryOp .LShift) gShl := os_I op_shl (fun i j h => ⟨h.1, h.2.1, by rw [← pow64]; exact h.2.2⟩) fun _ _ _ _ => .int _
theorem os_shr : OS X (binaryOp .RShift) gShr := os_I op_shr (fun _ _ h => h) fun _ _ _ _ => .int _
theorem osi_sub : OS X (inplaceOp .Sub) gSub := os_I0 iop_sub fun _ _ _ _ => .int _
theorem osi_and : OS X (inplaceOp .BitAnd) gAnd := os_I0 iop_and fun _ _ _ _ => .int _
theorem osi_or : OS X (inplaceOp .BitOr) gOr := os_I0 iop_or fun _ _ _ _ => .int _
theorem osi_xor : OS X (inplaceOp .BitXor) gXor := os_I0 iop_xor fun _ _ _ _ => .int _
theorem osi_fdiv : OS X (inplaceOp .FloorDiv) gFdiv := os_I iop_fdiv (fun _ _ h => h) fun _ _ _ _ => .int _
theorem osi_mod : OS X (inplaceOp .Mod) gMod := os_I iop_mod (fun _ _ h => h) fun _ _ _ _ => .int _
theorem osi_shl : OS X (inplaceOp .LShift) gShl := os_I iop_shl (fun i j h => ⟨h.1, h.2.1, by rw [← pow64]; exact h.2.2⟩) fun _ _ _ _ => .int _
theorem osi_shr : OS X (inplaceOp .RShift) gShr := os_I iop_shr (fun _ _ h => h) fun _ _ _ _ => .int _
def gLt : G2 := g2I0 fun i j => .bl (decide (i < j))
def gLe : G2 := g2I0 fun i j => .bl (decide (i ≤ j))
def gGt : G2 := g2I0 fun i j => .bl (decide (j < i))
def gGe : G2 := g2I0 fun i j => .bl (decide (j ≤ i))
theorem os_lt : OS X (compareOp .Lt) gLt := os_I0 op_lt fun _ _ _ _ => .bl _
theorem os_le : OS X (compareOp .LtE) gLe := os_I0 op_le fun _ _ _ _ => .bl _
theorem os_gt : OS X (compareOp .Gt) gGt := os_I0 op_gt fun _ _ _ _ => .bl _
theorem os_ge : OS X (compareOp .GtE) gGe := os_I0 op_ge fun _ _ _ _ => .bl _

/-! ### + -/
def gCatL : G2
  | .lst xs, .lst ys, S => if xs.length + ys.length ≤ 16000000 then .ok (.lst (xs ++ ys)) S else .bad
  | _, _, _ => .bad
def gCatT : G2
  | .tup xs, .tup ys, S => if xs.length + ys.length ≤ 16000000 then .ok (.tup (xs ++ ys)) S else .bad
  | _, _, _ => .bad
def gCatS : G2
  | .str x, .str y, S => if x.length + y.length ≤ 16000000 then .ok (.str (x ++ y)) S else .bad
  | _, _, _ => .bad
def gAdd : G2
  | .int i, .int j, S => .ok (.int (i + j)) S
  | .str x, .str y, S => if x.length + y.length ≤ 16000000 then .ok (.str (x ++ y)) S else .bad
  | .lst xs, .lst ys, S => if xs.length + ys.length ≤ 16000000 then .ok (.lst (xs ++ ys)) S else .bad
  | .tup xs, .tup ys, S => if xs.length + ys.length ≤ 16000000 then .ok (.tup (xs ++ ys)) S else .bad
  | _, _, _ => .bad
theorem os_catL : OS X (binaryOp .Add) gCatL := by
  refine ⟨_, op_cat, fun W σ φ H S x y vx vy Q s rx ry z => ?_⟩
  cases rx <;> try exact z.elim
  rename_i a vs xs z1 h1 w1 r1
  cases ry <;> try exact z.elim
  rename_i b ws ys z2 h2 w2 r2
  unfold gCatL at z
  by_cases h : xs.length + ys.length ≤ 16000000
  · simp only [h, if_true] at z
    have hl : vs.length + ws.length ≤ 16000000 := by rw [← r1.length, ← r2.length]; exact h
    refine ⟨a, b, vs, ws, rfl, rfl, h1, h2, line_ge hl, fun p hp => ?_⟩
    exact z φ _ _ (Le.fresh hp) (s.laid hp) (.lst (by rw [List.length_append]; exact line_ge hl) upd_same (s.fresh hp) ((r1.append r2).laid hp))
  · simp only [h, if_false] at z
    exact z.elim
theorem os_catT : OS X (binaryOp .Add) gCatT := by
  refine ⟨_, op_catA, fun W σ φ H S x y vx vy Q s rx ry z => ?_⟩
  cases rx <;> try exact z.elim
  rename_i a vs xs z1 h1 r1
  cases ry <;> try exact z.elim
  rename_i b ws ys z2 h2 r2
  unfold gCatT at z
  by_cases h : xs.length + ys.length ≤ 16000000
  · simp only [h, if_true] at z
    have hl : vs.length + ws.length ≤ 16000000 := by rw [← r1.length, ← r2.length]; exact h
    have rr := r1.append r2
    refine ⟨a, b, vs, ws, rfl, rfl, h1.sq, h2.sq, line_ge hl, fun e => ?_, fun _ e => ?_, fun _ _ p hp => ?_⟩
    · subst e
      exact z φ H _ (Le.refl _ _) s (.tup z2 h2 rr)
    · subst e
      rw [List.append_nil] at rr
      exact z φ H _ (Le.refl _ _) s (.tup z1 h1 rr)
    · exact z φ _ _ (Le.fresh hp) (s.laid hp) (.tup (by rw [List.length_append]; exact line_ge hl) (.inl ⟨.inl upd_same, s.fresh hp⟩) (rr.laid hp))
  · simp only [h, if_false] at z
    exact z.elim
theorem os_catS : OS X (binaryOp .Add) gCatS := by
  refine ⟨_, op_add_str, fun W σ φ H S x y vx vy Q s rx ry z => ?_⟩
  cases rx <;> try exact z.elim
  cases ry <;> try exact z.elim
  rename_i x y
  unfold gCatS at z
  by_cases h : x.length + y.length ≤ 16000000
  · simp only [h, if_true] at z
    exact ⟨x, y, rfl, rfl, line_ge h, z φ H _ (Le.refl _ _) s (.str _)⟩
  · simp only [h, if_false] at z
    exact z.elim
theorem os_add : OS X (binaryOp .Add) gAdd := by
  refine OS.or (os_I0 (g := fun i j => .int (i + j)) op_add fun _ _ _ _ => .int _) (OS.or os_catL (OS.or os_catT os_catS (g := fun x y S => match x, y with
    | .tup _, .tup _ => gCatT x y S
    | .str _, .str _ => gCatS x y S
    | _, _ => .bad) ?_) (g := fun x y S => match x, y with
    | .lst _, .lst _ => gCatL x y S
    | .tup _, .tup _ => gCatT x y S
    | .str _, .str _ => gCatS x y S
    | _, _ => .bad) ?_) ?_
  · intro x y S
    cases x <;> cases y <;> first | exact .inl rfl | exact .inr rfl
  · intro x y S
    cases x <;> cases y <;> first | exact .inl rfl | exact .inr rfl
  · intro x y S
    cases x <;> cases y <;> first | exact .inl rfl | exact .inr rfl
/-- x += y of ints and texts -/
def gIAdd : G2
  | .int i, .int j, S => .ok (.int (i + j)) S
  | .str x, .str y, S => if x.length + y.length ≤ 16000000 then .ok (.str (x ++ y)) S else .bad
  | _, _, _ => .bad
theorem osi_add : OS X (inplaceOp .Add) gIAdd := by
  refine OS.or (os_I0 (g := fun i j => .int (i + j)) iop_add fun _ _ _ _ => .int _) (g2 := gCatS) ⟨_, iop_add_str, fun W σ φ H S x y vx vy Q s rx ry z => ?_⟩ ?_
  · cases rx <;> try exact z.elim
    cases ry <;> try exact z.elim
    rename_i x y
    unfold gCatS at z
    by_cases h : x.length + y.length ≤ 16000000
    · simp only [h, if_true] at z
      exact ⟨x, y, rfl, rfl, line_ge h, z φ H _ (Le.refl _ _) s (.str _)⟩
    · simp only [h, if_false] at z
      exact z.elim
  · intro x y S
    cases x <;> cases y <;> first | exact .inl rfl | exact .inr rfl

/-! ### * -/
def gMulI : G2 := g2I (fun i j => i.natAbs < 18446744073709551616 ∨ j.natAbs < 18446744073709551616) fun i j => .int (i * j)
def gRepL : G2
  | .lst xs, .int k, S => if 0 ≤ k ∧ k ≤ 100000 ∧ xs.length * k.toNat ≤ 16000000 then .ok (.lst (List.replicate k.toNat xs).flatten) S else .bad
  | _, _, _ => .bad
def gRepT : G2
  | .tup xs, .int k, S => if xs ≠ [] ∧ 2 ≤ k ∧ k ≤ 1000 ∧ xs.length ≤ 1000 then .ok (.tup (List.replicate k.toNat xs).flatten) S else .bad
  | _, _, _ => .bad
def gMul : G2
  | .int i, .int j, S => gMulI (.int i) (.int j) S
  | .lst xs, .int k, S => gRepL (.lst xs) (.int k) S
  | .tup xs, .int k, S => gRepT (.tup xs) (.int k) S
  | _, _, _ => .bad
theorem os_mulI : OS X (binaryOp .Mult) gMulI := os_I op_mul (fun i j h => by
  rcases h with h | h
  · refine .inl ?_
    show -(2 ^ 64) < i ∧ i < 2 ^ 64
    omega
  · refine .inr ?_
    show -(2 ^ 64) < j ∧ j < 2 ^ 64
    omega) fun _ _ _ _ => .int _
theorem flat_len {α : Type} (xs : List α) : ∀ k : Nat, (List.replicate k xs).flatten.length = k * xs.length
  | 0 => by simp
  | k + 1 => by
    rw [List.replicate_succ, List.flatten_cons, List.length_append, flat_len xs k, Nat.succ_mul]
    omega
theorem os_repL : OS X (binaryOp .Mult) gRepL := by
  refine ⟨_, op_rep, fun W σ φ H S x y vx vy Q s rx ry z => ?_⟩
  cases rx <;> try exact z.elim
  rename_i a vs xs z1 h1 w1 r1
  cases ry <;> try exact z.elim
  rename_i k
  unfold gRepL at z
  by_cases h : 0 ≤ k ∧ k ≤ 100000 ∧ xs.length * k.toNat ≤ 16000000
  · simp only [h, and_self, if_true] at z
    have hl : vs.length * k.toNat ≤ 16000000 := by rw [← r1.length]; exact h.2.2
    have h63 : (100000 : Int) < 2 ^ 63 := by decide
    refine ⟨a, k, vs, rfl, rfl, h1, by omega, by omega, line_ge hl, fun p hp => ?_⟩
    refine z φ _ _ (Le.fresh hp) (s.laid hp) (.lst ?_ upd_same (s.fresh hp) ((r1.reps k.toNat).laid hp))
    rw [flat_len, Nat.mul_comm]
    exact line_ge hl
  · simp only [h, if_false] at z
    exact z.elim
theorem os_repT : OS X (binaryOp .Mult) gRepT := by
  refine ⟨_, op_repT, fun W σ φ H S x y vx vy Q s rx ry z => ?_⟩
  cases rx <;> try exact z.elim
  rename_i a vs xs z1 h1 r1
  cases ry <;> try exact z.elim
  rename_i k
  unfold gRepT at z
  by_cases h : xs ≠ [] ∧ 2 ≤ k ∧ k ≤ 1000 ∧ xs.length ≤ 1000
  · simp only [h, ne_eq, not_false_eq_true, and_self, if_true] at z
    have hl := r1.length
    refine ⟨a, k, vs, rfl, rfl, h1.sq, fun e => ?_, h.2.1, h.2.2.1, by omega, fun p hp => ?_⟩
    · subst e
      cases r1
      exact h.1 rfl
    · refine z φ _ _ (Le.fresh hp) (s.laid hp) (.tup ?_ (.inl ⟨.inl upd_same, s.fresh hp⟩) ((r1.reps k.toNat).laid hp))
      rw [flat_len]
      have hm : k.toNat * vs.length ≤ 1000 * 1000 := Nat.mul_le_mul (by omega) (by omega)
      exact line_ge (Nat.le_trans hm (by decide))
  · simp only [h, if_false] at z
    exact z.elim
theorem os_mul : OS X (binaryOp .Mult) gMul := by
  refine OS.or os_mulI (OS.or os_repL os_repT (g := fun x y S => match x, y with
    | .lst _, .int _ => gRepL x y S
    | .tup _, .int _ => gRepT x y S
    | _, _ => .bad) ?_) ?_
  · intro x y S
    cases x <;> cases y <;> first | exact .inl rfl | exact .inr rfl
  · intro x y S
    cases x <;> cases y <;> first | exact .inl rfl | exact .inr rfl

/-! ### == -/
mutual
def D.toP : D → PyData
  | .non => .none
  | .bl b => .bool b
  | .int i => .int i
  | .str x => .str x
  | .ty _ => .dict []
  | .tup xs => .tuple (D.toPs xs)
  | .lst xs => .list (D.toPs xs)
  | .rol xs => .list (D.toPs xs)
  | .box _ _ => .dict []
  | .ref _ _ => .dict []
def D.toPs : List D → List PyData
  | [] => []
  | x :: xs => x.toP :: D.toPs xs
end
mutual
theorem dp_of {K : PySem.W.Frag} {φ : Phi} {H : Hp} : ∀ {d : D} {v : V}, Rel K φ H d v → PyData.canLay0 d.toP = true → Dp K H v d.toP
  | _, _, .non, _ => .non
  | _, _, .bl b, _ => .bl b
  | _, _, .int i, _ => .int i
  | _, _, .str x, _ => .str x
  | _, _, .ty n, h => by simp [D.toP, PyData.canLay0] at h
  | _, _, .tup z f r, h => .tup f.sq (dps_of r (by simpa [D.toP, PyData.canLay0] using h))
  | _, _, .lst z f w r, h => .lst (SqL.of f) (dps_of r (by simpa [D.toP, PyData.canLay0] using h))
  | _, _, .rol z f r, h => .lst f.sq (dps_of r (by simpa [D.toP, PyData.canLay0] using h))
  | _, _, .box _ _ _ _, h => by simp [D.toP, PyData.canLay0] at h
  | _, _, .ref e, h => by simp [D.toP, PyData.canLay0] at h
theorem dps_of {K : PySem.W.Frag} {φ : Phi} {H : Hp} : ∀ {ds : List D} {vs : List V}, RelL K φ H ds vs → PyData.canLayAll0 (D.toPs ds) = true → DpAll K H vs (D.toPs ds)
  | _, _, .nil, _ => .nil
  | _, _, .cons r rs, h => by
    simp only [D.toPs, PyData.canLayAll0, Bool.and_eq_true] at h
    exact .cons (dp_of r h.1) (dps_of rs h.2)
end
def gEq : G2
  | .int i, .int j, S => .ok (.bl (decide (i = j))) S
  | .bl i, .bl j, S => .ok (.bl (decide (i = j))) S
  | .str i, .str j, S => .ok (.bl (decide (i = j))) S
  | .int _, .str _, S => .ok (.bl false) S
  | .str _, .int _, S => .ok (.bl false) S
  | .non, .int _, S => .ok (.bl false) S
  | .non, .str _, S => .ok (.bl false) S
  | .non, .bl _, S => .ok (.bl false) S
  | .int _, .non, S => .ok (.bl false) S
  | .str _, .non, S => .ok (.bl false) S
  | .bl _, .non, S => .ok (.bl false) S
  | .bl _, .str _, S => .ok (.bl false) S
  | .str _, .bl _, S => .ok (.bl false) S
  | x, y, S => if SeqAt.shaped x.toP && SeqAt.shaped y.toP then .ok (.bl (PyData.eqv x.toP y.toP)) S else .bad
def gNe : G2
  | .int i, .int j, S => .ok (.bl (!decide (i = j))) S
  | .bl i, .bl j, S => .ok (.bl (!decide (i = j))) S
  | .str i, .str j, S => .ok (.bl (!decide (i = j))) S
  | .int _, .str _, S => .ok (.bl true) S
  | .str _, .int _, S => .ok (.bl true) S
  | .non, .int _, S => .ok (.bl true) S
  | .non, .str _, S => .ok (.bl true) S
  | .non, .bl _, S => .ok (.bl true) S
  | .int _, .non, S => .ok (.bl true) S
  | .str _, .non, S => .ok (.bl true) S
  | .bl _, .non, S => .ok (.bl true) S
  | .bl _, .str _, S => .ok (.bl true) S
  | .str _, .bl _, S => .ok (.bl true) S
  | x, y, S => if SeqAt.shaped x.toP && SeqAt.shaped y.toP then .ok (.bl (!PyData.eqv x.toP y.toP)) S else .bad
theorem os_eqGen (hu : X.A.units + 64 < cLine) : OS X (compareOp .Eq) (fun x y S => if SeqAt.shaped x.toP && SeqAt.shaped y.toP then .ok (.bl (PyData.eqv x.toP y.toP)) S else .bad) := by
  refine ⟨_, op_eqD hu, fun W σ φ H S x y vx vy Q s rx ry z => ?_⟩
  by_cases h : (SeqAt.shaped x.toP && SeqAt.shaped y.toP) = true
  · simp only [h, if_true] at z
    rw [Bool.and_eq_true] at h
    exact ⟨_, _, dp_of rx (SeqAt.canLay_of_shaped h.1), dp_of ry (SeqAt.canLay_of_shaped h.2), h.1, h.2, z φ H _ (Le.refl _ _) s (.bl _)⟩
  · simp only [h] at z
    exact z.elim
theorem os_neGen (hu : X.A.units + 64 < cLine) : OS X (compareOp .NotEq) (fun x y S => if SeqAt.shaped x.toP && SeqAt.shaped y.toP then .ok (.bl (!PyData.eqv x.toP y.toP)) S else .bad) := by
  refine ⟨_, op_neD hu, fun W σ φ H S x y vx vy Q s rx ry z => ?_⟩
  by_cases h : (SeqAt.shaped x.toP && SeqAt.shaped y.toP) = true
  · simp only [h, if_true] at z
    rw [Bool.and_eq_true] at h
    exact ⟨_, _, dp_of rx (SeqAt.canLay_of_shaped h.1), dp_of ry (SeqAt.canLay_of_shaped h.2), h.1, h.2, z φ H _ (Le.refl _ _) s (.bl _)⟩
  · simp only [h] at z
    exact z.elim
def gEqS : G2
  | .int i, .int j, S => .ok (.bl (decide (i = j))) S
  | .bl i, .bl j, S => .ok (.bl (decide (i = j))) S
  | .str i, .str j, S => .ok (.bl (decide (i = j))) S
  | .int _, .str _, S => .ok (.bl false) S
  | .str _, .int _, S => .ok (.bl false) S
  | .non, .int _, S => .ok (.bl false) S
  | .non, .str _, S => .ok (.bl false) S
  | .non, .bl _, S => .ok (.bl false) S
  | .int _, .non, S => .ok (.bl false) S
  | .str _, .non, S => .ok (.bl false) S
  | .bl _, .non, S => .ok (.bl false) S
  | .bl _, .str _, S => .ok (.bl false) S
  | .str _, .bl _, S => .ok (.bl false) S
  | _, _, _ => .bad
theorem bl_to {K : PySem.W.Frag} {mg : Str → Option Value} {φ : Phi} {H : Hp} {S : Sto} {E : Value → Option Addr → Hp → Prop} {Q : VK} {b c : Bool} (s : RS K φ H S) (z : Ok K mg (Rel K) φ H E Q (.ok (.bl b) S)) (e : c = b) : Q (.bl c) H := by
  subst e
  exact z φ H _ (Le.refl _ _) s (.bl _)
theorem os_eqS : OS X (compareOp .Eq) gEqS := by
  refine ⟨_, op_eq, fun W σ φ H S x y vx vy Q s rx ry z => ?_⟩
  cases rx <;> cases ry <;> first
    | exact z.elim
    | exact ⟨rfl, bl_to s z (by simp)⟩
theorem os_neS : OS X (compareOp .NotEq) (fun x y S => (gEqS x y S).bind fun d S => match d with | .bl b => .ok (.bl (!b)) S | _ => .bad) := by
  refine ⟨_, op_ne, fun W σ φ H S x y vx vy Q s rx ry z => ?_⟩
  cases rx <;> cases ry <;> first
    | exact z.elim
    | exact ⟨rfl, bl_to s z (by simp)⟩
theorem os_eq (hu : X.A.units + 64 < cLine) : OS X (compareOp .Eq) gEq := by
  refine OS.or os_eqS (os_eqGen hu) ?_
  intro x y S
  cases x <;> cases y <;> first | exact .inl rfl | exact .inr rfl
theorem os_ne (hu : X.A.units + 64 < cLine) : OS X (compareOp .NotEq) gNe := by
  refine OS.or os_neS (os_neGen hu) ?_
  intro x y S
  cases x <;> cases y <;> first | exact .inl rfl | exact .inr rfl
/-- x is None -/
def D.isNon : D → Bool
  | .non => true
  | _ => false
theorem rel_non {K : PySem.W.Frag} {φ : Phi} {H : Hp} {d : D} {v : V} (r : Rel K φ H d v) : decide (v = .non) = d.isNon := by
  cases r <;> rfl
def gIsN : G2
  | x, .non, S => .ok (.bl x.isNon) S
  | _, _, _ => .bad
def gNotN : G2
  | x, .non, S => .ok (.bl (!x.isNon)) S
  | _, _, _ => .bad
theorem os_isN : OS X (compareOp .Is) gIsN := by
  refine ⟨_, op_isN, fun W σ φ H S x y vx vy Q s rx ry z => ?_⟩
  cases ry <;> try (simp only [gIsN] at z; exact z.elim)
  exact ⟨rfl, bl_to s (b := x.isNon) z (rel_non rx)⟩
theorem os_notN : OS X (compareOp .IsNot) gNotN := by
  refine ⟨_, op_notN, fun W σ φ H S x y vx vy Q s rx ry z => ?_⟩
  cases ry <;> try (simp only [gNotN] at z; exact z.elim)
  exact ⟨rfl, bl_to s (b := !x.isNon) z (by rw [rel_non rx])⟩
end

/-! ### unary -/
def gNeg : D → Sto → R D
  | .int i, S => .ok (.int (-i)) S
  | _, _ => .bad
theorem us_neg {X : Cx} : US X (unaryOp .USub) gNeg := by
  refine ⟨_, un_neg, fun W σ φ H S x vx Q s rx z => ?_⟩
  cases rx <;> try exact z.elim
  rename_i i
  exact ⟨i, rfl, z φ H _ (Le.refl _ _) s (.int _)⟩

/-! ### truth, tests -/
def tru : D → Sto → R Bool
  | .bl b, S => .ok b S
  | .int i, S => .ok (i != 0) S
  | .non, S => .ok false S
  | .tup xs, S => .ok (!xs.isEmpty) S
  | .lst xs, S => .ok (!xs.isEmpty) S
  | .rol xs, S => .ok (!xs.isEmpty) S
  | .box (.dK ks) _, S => .ok (!ks.isEmpty) S
  | .ref l i, S => match look S l i with
    | some (.lst xs) => .ok (!xs.isEmpty) S
    | some (.box (.dK ks) _) => .ok (!ks.isEmpty) S
    | _ => .bad
  | .str x, S => if x.length ≤ 16000000 then .ok ((x.length : Int) != 0) S else .bad
  | _, _ => .bad
theorem relL_empty {K : PySem.W.Frag} {φ : Phi} {H : Hp} {ds : List D} {vs : List V} (r : RelL K φ H ds vs) : vs.isEmpty = ds.isEmpty := by
  cases r <;> rfl
theorem zip_empty {α β : Type} {ks : List α} {vs : List β} (h : ks.length = vs.length) : (ks.zip vs).isEmpty = ks.isEmpty := by
  cases ks <;> cases vs <;> simp_all
theorem tru_of {X : Cx} {W : WX} {σ : L2.St} {φ : Phi} {H : Hp} {S : Sto} {d : D} {v : V} {Q : Bool → Hp → Prop} (s : RS X.K φ H S) (r : Rel X.K φ H d v) (z : Ok X.K X.mg eqB φ H (fun cls d H' => W cls d σ H') Q (tru d S)) : ∃ k, TruV X.K v H k ∧ Q k H := by
  have fin : ∀ b, Ok X.K X.mg eqB φ H (fun cls d H' => W cls d σ H') Q (.ok b S) → Q b H := fun b z => z φ H b (Le.refl _ _) s rfl
  cases r with
  | non => exact ⟨false, rfl, fin _ z⟩
  | bl b => exact ⟨b, rfl, fin _ z⟩
  | int i => exact ⟨_, rfl, fin _ z⟩
  | str x =>
    unfold tru at z
    by_cases h : x.length ≤ 16000000
    · simp only [h, if_true] at z
      exact ⟨_, ⟨line_ge h, rfl⟩, fin _ z⟩
    · simp only [h, if_false] at z
      exact z.elim
  | ty n => exact z.elim
  | tup zz f rr => exact ⟨_, .inr (.inl ⟨_, f.sq, by rw [relL_empty rr]⟩), fin _ z⟩
  | lst zz f w rr => exact ⟨_, .inl ⟨_, SqL.of f, by rw [relL_empty rr]⟩, fin _ z⟩
  | rol zz f rr => exact ⟨_, .inl ⟨_, f.sq, by rw [relL_empty rr]⟩, fin _ z⟩
  | @box a vs ds b at_ n w rr =>
    cases b with
    | dK ks =>
      exact ⟨_, .inr (.inr ⟨_, at_.2, by rw [zip_empty at_.1]⟩), fin _ z⟩
    | dT ks => exact z.elim
    | ins c fs => exact z.elim
  | ref e =>
    rename_i l i a
    unfold tru at z
    cases q : look S l i with
    | none => simp only [q] at z; exact z.elim
    | some o =>
      cases o with
      | dead => simp only [q] at z; exact z.elim
      | lst xs =>
        simp only [q] at z
        obtain ⟨vs, hv, _, rr⟩ := s.obj l i _ a q e
        exact ⟨_, .inl ⟨_, SqL.of hv, by rw [relL_empty rr]⟩, fin _ z⟩
      | box b xs =>
        cases b with
        | dK ks =>
          simp only [q] at z
          obtain ⟨vs, hv, rr⟩ := s.obj l i _ a q e
          exact ⟨_, .inr (.inr ⟨_, hv.2, by rw [zip_empty hv.1]⟩), fin _ z⟩
        | dT ks => simp only [q] at z; exact z.elim
        | ins c fs => simp only [q] at z; exact z.elim
def cT (a : C) : CT := fun ρ S => (a ρ S).bind fun d S => tru d S
def cTB (a : C) : CT := fun ρ S => (a ρ S).bind fun d S => match d with
  | .bl b => .ok b S
  | _ => .bad
section
variable {X : Cx} {W : WX} {pos : Pos} {a b c : Expr} {ca cb cc : C} {ta tb : CT} {rest : List Expr}
/-- a test by an expression's truth -/
theorem mt_e (ha : ME X W a ca) (he : ∀ whole, isTrue a X.env whole = (do let v ← whole; standAt a.pos; holding [v] (truthy v)) := by intro _; rfl) : MT X W a (cT ca) := by
  refine ⟨(pt_truth ha.pe he).imp fun σ H Q h => ?_⟩
  obtain ⟨ρ, φ, S, hE, hs, h⟩ := h
  exact ⟨ρ, φ, S, hE, hs, h.step fun d S1 φ1 H1 v q l s r z => tru_of s r z⟩
theorem rdT_of {t : CT} {c : C} {σ : L2.St} {H : Hp} {Q : Bool → Hp → Prop} (h : rdT X W (cTB c) σ H Q) : rdE X W c σ H (fun x H' => ∃ k, x = .bl k ∧ Q k H') := by
  obtain ⟨ρ, φ, S, hE, hs, h⟩ := h
  refine ⟨ρ, φ, S, hE, hs, h.step fun d S1 φ1 H1 v q l s r z => ?_⟩
  cases r <;> try exact z.elim
  rename_i b
  exact ⟨b, rfl, z φ1 H1 b (Le.refl _ _) s rfl⟩
theorem mt_cmp {op : CmpOp} {g : G2} (ho : OS X (compareOp op) g) (ha : ME X W a ca) (hb : ME X W b cb) (hm : behindInMarks op b = false) : MT X W (.Compare a [op] [b] pos) (cTB (cB g ca cb)) := by
  obtain ⟨r, hr, k⟩ := ho
  refine ⟨(pt_cmpR hr ha.pe hb.pe hm).imp fun σ H Q h => ?_⟩
  have h2 := rdT_of (t := cTB (cB g ca cb)) h
  exact bin_imp (ta := ca) (fun φ H S x y vx vy s rx ry z => k W σ φ H S x y vx vy _ s rx ry z) h2
def tAnd (a b : CT) : CT := fun ρ S => (a ρ S).bind fun k S => if k = true then b ρ S else .ok false S
def tOr (a b : CT) : CT := fun ρ S => (a ρ S).bind fun k S => if k = true then .ok true S else b ρ S
def tNot (a : CT) : CT := fun ρ S => (a ρ S).bind fun k S => .ok (!k) S
theorem mw_and1 (ha : MT X W a ta) : MW X W (.BoolOp .And [a] pos) ta := ⟨pw_and1 ha.pt⟩
theorem mw_or1 (ha : MT X W a ta) : MW X W (.BoolOp .Or [a] pos) ta := ⟨pw_or1 ha.pt⟩
theorem mw_and (ha : MT X W a ta) (hb : MW X W (.BoolOp .And (b :: rest) pos) tb) : MW X W (.BoolOp .And (a :: b :: rest) pos) (tAnd ta tb) := by
  refine ⟨(pw_and ha.pt hb.pw).imp fun σ H Q h => ?_⟩
  obtain ⟨ρ, φ, S, hE, hs, h⟩ := h
  refine ⟨ρ, φ, S, hE, hs, h.step fun k S1 φ1 H1 v q l s r z => ?_⟩
  cases r
  cases k with
  | true =>
    simp only [if_true] at z ⊢
    exact ⟨ρ, φ1, S1, hE.mono l, s, z⟩
  | false =>
    simp only [Bool.false_eq_true, if_false] at z ⊢
    exact z φ1 H1 false (Le.refl _ _) s rfl
theorem mw_or (ha : MT X W a ta) (hb : MW X W (.BoolOp .Or (b :: rest) pos) tb) : MW X W (.BoolOp .Or (a :: b :: rest) pos) (tOr ta tb) := by
  refine ⟨(pw_or ha.pt hb.pw).imp fun σ H Q h => ?_⟩
  obtain ⟨ρ, φ, S, hE, hs, h⟩ := h
  refine ⟨ρ, φ, S, hE, hs, h.step fun k S1 φ1 H1 v q l s r z => ?_⟩
  cases r
  cases k with
  | true =>
    simp only [if_true] at z ⊢
    exact z φ1 H1 true (Le.refl _ _) s rfl
  | false =>
    simp only [Bool.false_eq_true, if_false] at z ⊢
    exact ⟨ρ, φ1, S1, hE.mono l, s, z⟩
theorem mt_not (ha : MT X W a ta) : MT X W (.UnaryOp .Not a pos) (tNot ta) := by
  refine ⟨(pt_not ha.pt).imp fun σ H Q h => ?_⟩
  obtain ⟨ρ, φ, S, hE, hs, h⟩ := h
  refine ⟨ρ, φ, S, hE, hs, h.step fun k S1 φ1 H1 v q l s r z => ?_⟩
  cases r
  exact z φ1 H1 (!k) (Le.refl _ _) s rfl
/-! ### and, or, not as values -/
def cAnd (a b : C) : C := fun ρ S => (a ρ S).bind fun x S => (tru x S).bind fun k S => if k = true then b ρ S else .ok x S
def cOr (a b : C) : C := fun ρ S => (a ρ S).bind fun x S => (tru x S).bind fun k S => if k = true then .ok x S else b ρ S
def cNot (a : C) : C := fun ρ S => (a ρ S).bind fun x S => (tru x S).bind fun k S => .ok (.bl (!k)) S
theorem tru_keeps {d : D} {S S' : Sto} {b : Bool} (h : tru d S = .ok b S') : S' = S := by
  unfold tru at h
  repeat' split at h
  all_goals first
    | (injection h with h1 h2; exact h2.symm)
    | cases h
theorem Ok.tru {σ : L2.St} {φ : Phi} {H : Hp} {S : Sto} {d : D} {v : V} {Q : VK} {f : Bool → R D} (s : RS X.K φ H S) (r : Rel X.K φ H d v) (z : Ok X.K X.mg (Rel X.K) φ H (fun cls d H' => W cls d σ H') Q ((MP.tru d S).bind fun k _ => f k)) :
    ∃ k, TruV X.K v H k ∧ Ok X.K X.mg (Rel X.K) φ H (fun cls d H' => W cls d σ H') Q (f k) := by
  refine tru_of (W := W) (σ := σ) (Q := fun k H' => Ok X.K X.mg (Rel X.K) φ H (fun cls d H' => W cls d σ H') Q (f k)) s r ?_
  cases q : MP.tru d S with
  | ok k S' =>
    rw [q, R.bind_ok] at z
    intro φ' H' v l _ e
    cases e
    exact z
  | err x S' =>
    unfold MP.tru at q
    repeat' split at q
    all_goals cases q
  | bad => rw [q] at z; exact z.elim
theorem me_one {op} (h : ME X W a ca) : ME X W (.BoolOp op [a] pos) ca := ⟨pe_one h.pe⟩
theorem me_and (ha : ME X W a ca) (hb : ME X W (.BoolOp .And (b :: rest) pos) cb) : ME X W (.BoolOp .And (a :: b :: rest) pos) (cAnd ca cb) := by
  refine ⟨(pe_andT ha.pe hb.pe).imp fun σ H Q h => ?_⟩
  obtain ⟨ρ, φ, S, hE, hs, h⟩ := h
  refine ⟨ρ, φ, S, hE, hs, h.step fun d S1 φ1 H1 v q l s r z => ?_⟩
  have z' : Ok X.K X.mg (Rel X.K) φ1 H1 (fun cls d H' => W cls d σ H') Q ((tru d S1).bind fun k _ => if k = true then cb ρ S1 else .ok d S1) := by
    revert z
    cases e : tru d S1 with
    | ok k S2 => cases tru_keeps e; exact id
    | err x S2 => exact id
    | bad => exact id
  obtain ⟨k, hk, z2⟩ := Ok.tru s r z'
  refine ⟨k, hk, ?_⟩
  cases k with
  | true =>
    simp only [if_true] at z2 ⊢
    exact ⟨ρ, φ1, S1, hE.mono l, s, z2⟩
  | false =>
    simp only [Bool.false_eq_true, if_false] at z2 ⊢
    exact z2 φ1 H1 v (Le.refl _ _) s r
theorem me_or (ha : ME X W a ca) (hb : ME X W (.BoolOp .Or (b :: rest) pos) cb) : ME X W (.BoolOp .Or (a :: b :: rest) pos) (cOr ca cb) := by
  refine ⟨(pe_orT ha.pe hb.pe).imp fun σ H Q h => ?_⟩
  obtain ⟨ρ, φ, S, hE, hs, h⟩ := h
  refine ⟨ρ, φ, S, hE, hs, h.step fun d S1 φ1 H1 v q l s r z => ?_⟩
  have z' : Ok X.K X.mg (Rel X.K) φ1 H1 (fun cls d H' => W cls d σ H') Q ((tru d S1).bind fun k _ => if k = true then .ok d S1 else cb ρ S1) := by
    revert z
    cases e : tru d S1 with
    | ok k S2 => cases tru_keeps e; exact id
    | err x S2 => exact id
    | bad => exact id
  obtain ⟨k, hk, z2⟩ := Ok.tru s r z'
  refine ⟨k, hk, ?_⟩
  cases k with
  | true =>
    simp only [if_true] at z2 ⊢
    exact z2 φ1 H1 v (Le.refl _ _) s r
  | false =>
    simp only [Bool.false_eq_true, if_false] at z2 ⊢
    exact ⟨ρ, φ1, S1, hE.mono l, s, z2⟩
theorem me_not (ha : ME X W a ca) : ME X W (.UnaryOp .Not a pos) (cNot ca) := by
  refine ⟨(pe_notT ha.pe).imp fun σ H Q h => ?_⟩
  obtain ⟨ρ, φ, S, hE, hs, h⟩ := h
  refine ⟨ρ, φ, S, hE, hs, h.step fun d S1 φ1 H1 v q l s r z => ?_⟩
  have z' : Ok X.K X.mg (Rel X.K) φ1 H1 (fun cls d H' => W cls d σ H') Q ((tru d S1).bind fun k _ => .ok (.bl (!k)) S1) := by
    revert z
    cases e : tru d S1 with
    | ok k S2 => cases tru_keeps e; exact id
    | err x S2 => exact id
    | bad => exact id
  obtain ⟨k, hk, z2⟩ := Ok.tru s r z'
  exact ⟨k, hk, z2 φ1 H1 _ (Le.refl _ _) s (.bl _)⟩
/-! ### x if t else y -/
def cIf (t : CT) (a b : C) : C := fun ρ S => (t ρ S).bind fun k S => if k = true then a ρ S else b ρ S
theorem me_if {t : CT} (hc : MT X W c t) (ha : ME X W a ca) (hb : ME X W b cb) : ME X W (.IfExp c a b pos) (cIf t ca cb) := by
  refine ⟨(pe_ifExp hc.pt ha.pe hb.pe).imp fun σ H Q h => ?_⟩
  obtain ⟨ρ, φ, S, hE, hs, h⟩ := h
  refine ⟨ρ, φ, S, hE, hs, h.step fun k S1 φ1 H1 v q l s r z => ?_⟩
  cases r
  cases k with
  | true =>
    simp only [if_true] at z ⊢
    exact ⟨ρ, φ1, S1, hE.mono l, s, z⟩
  | false =>
    simp only [Bool.false_eq_true, if_false] at z ⊢
    exact ⟨ρ, φ1, S1, hE.mono l, s, z⟩
/-! ### a < b < c -/
def cChain (g g' : G2) (a b c : C) : C := fun ρ S => (a ρ S).bind fun x S => (b ρ S).bind fun y S => (g x y S).bind fun k S => match k with
  | .bl true => (c ρ S).bind fun z S => g' y z S
  | .bl false => .ok (.bl false) S
  | _ => .bad
end
end MP

/-! MP: statements, loops, calls, defs. -/
namespace MP
open PySem PySem.Spec PyProof.Rows L2

/-! ### statements -/
inductive RSt where
  | nx (ρ : Ro) (S : Sto)
  | ret (d : D) (S : Sto)
  | brk (ρ : Ro) (S : Sto)
  | cnt (ρ : Ro) (S : Sto)
  | err (x : Exn) (ρ : Ro) (S : Sto)
  | bad
abbrev CS := Ro → Sto → RSt
section
variable (K : PySem.W.Frag) (mg : Str → Option Value)
def OkS (φ : Phi) (H : Hp) (W : WX) (D' : Ends) : RSt → Prop
  | .nx ρ S => ∀ φ' H' σ', Le φ H φ' H' → RS K φ' H' S → RE K φ' H' ρ σ' → D'.nx σ' H'
  | .ret d S => ∀ φ' H' v, Le φ H φ' H' → RS K φ' H' S → Rel K φ' H' d v → D'.rt v H'
  | .brk ρ S => ∀ φ' H' σ', Le φ H φ' H' → RS K φ' H' S → RE K φ' H' ρ σ' → D'.bk σ' H'
  | .cnt ρ S => ∀ φ' H' σ', Le φ H φ' H' → RS K φ' H' S → RE K φ' H' ρ σ' → D'.ct σ' H'
  | .err x ρ S => ∀ φ' H' σ' cls dx, Le φ H φ' H' → RS K φ' H' S → RE K φ' H' ρ σ' → RX K mg φ' H' x cls dx → W cls dx σ' H'
  | .bad => False
end
theorem OkS.later {K : PySem.W.Frag} {mg : Str → Option Value} {φ φ' : Phi} {H H' : Hp} {W : WX} {D' : Ends} {r : RSt} (e : Le φ H φ' H') (h : OkS K mg φ H W D' r) : OkS K mg φ' H' W D' r := by
  cases r with
  | nx ρ S => exact fun p q s l => h p q s (e.trans l)
  | ret d S => exact fun p q s l => h p q s (e.trans l)
  | brk ρ S => exact fun p q s l => h p q s (e.trans l)
  | cnt ρ S => exact fun p q s l => h p q s (e.trans l)
  | err x ρ S => exact fun p q s c d l => h p q s c d (e.trans l)
  | bad => exact h
def rdS (X : Cx) (W : WX) (c : CS) : TS := fun D' σ H => ∃ ρ φ S, RE X.K φ H ρ σ ∧ RS X.K φ H S ∧ OkS X.K X.mg φ H W D' (c ρ S)
structure MS (X : Cx) (W : WX) (st : Stmt) (c : CS) : Prop where
  ps : PS X st (rdS X W c)
structure MSs (X : Cx) (W : WX) (st : List Stmt) (c : CS) : Prop where
  ps : PSs X st (rdS X W c)
theorem _root_.L2.PS.imp {X : Cx} {st : Stmt} {t u : TS} (h : PS X st t) (k : ∀ D σ H, u D σ H → t D σ H) : PS X st u := ⟨fun pins s σ H D I z => h.run pins s σ H D I (k D σ H z)⟩
theorem _root_.L2.PSs.imp {X : Cx} {st : List Stmt} {t u : TS} (h : PSs X st t) (k : ∀ D σ H, u D σ H → t D σ H) : PSs X st u := ⟨fun pins s σ H D I z => h.run pins s σ H D I (k D σ H z)⟩

/-- an expression's result, then a statement's end -/
def RSt.of {α : Type} (ρ : Ro) (r : R α) (f : α → Sto → RSt) : RSt := match r with
  | .ok a S => f a S
  | .err x S => .err x ρ S
  | .bad => .bad
@[simp] theorem RSt.of_ok {α : Type} (ρ : Ro) (a : α) (S : Sto) (f : α → Sto → RSt) : RSt.of ρ (.ok a S) f = f a S := (rfl)
@[simp] theorem RSt.of_err {α : Type} (ρ : Ro) (x : Exn) (S : Sto) (f : α → Sto → RSt) : RSt.of ρ (.err x S : R α) f = .err x ρ S := (rfl)
@[simp] theorem RSt.of_bad {α : Type} (ρ : Ro) (f : α → Sto → RSt) : RSt.of ρ (.bad : R α) f = .bad := (rfl)
/-- the next statement -/
def RSt.andThen (r : RSt) (f : Ro → Sto → RSt) : RSt := match r with
  | .nx ρ S => f ρ S
  | .ret d S => .ret d S
  | .brk ρ S => .brk ρ S
  | .cnt ρ S => .cnt ρ S
  | .err x ρ S => .err x ρ S
  | .bad => .bad
@[simp] theorem RSt.andThen_nx (ρ : Ro) (S : Sto) (f : Ro → Sto → RSt) : (RSt.nx ρ S).andThen f = f ρ S := (rfl)
@[simp] theorem RSt.andThen_ret (d : D) (S : Sto) (f : Ro → Sto → RSt) : (RSt.ret d S).andThen f = .ret d S := (rfl)
@[simp] theorem RSt.andThen_brk (ρ : Ro) (S : Sto) (f : Ro → Sto → RSt) : (RSt.brk ρ S).andThen f = .brk ρ S := (rfl)
@[simp] theorem RSt.andThen_cnt (ρ : Ro) (S : Sto) (f : Ro → Sto → RSt) : (RSt.cnt ρ S).andThen f = .cnt ρ S := (rfl)
@[simp] theorem RSt.andThen_err (x : Exn) (ρ : Ro) (S : Sto) (f : Ro → Sto → RSt) : (RSt.err x ρ S).andThen f = .err x ρ S := (rfl)
@[simp] theorem RSt.andThen_bad (f : Ro → Sto → RSt) : RSt.bad.andThen f = .bad := (rfl)

section
variable {X : Cx} {W : WX} {α β : Type} {rel : Phi → Hp → α → β → Prop} {φ : Phi} {H : Hp} {ρ : Ro} {σ : L2.St} {D' : Ends}
/-- a statement that begins with an expression -/
theorem OkS.from {r : R α} {f : α → Sto → RSt} {Q : β → Hp → Prop} (he : RE X.K φ H ρ σ) (h : OkS X.K X.mg φ H W D' (.of ρ r f)) (k : ∀ d S φ1 H1 v, r = .ok d S → Le φ H φ1 H1 → RS X.K φ1 H1 S → rel φ1 H1 d v → OkS X.K X.mg φ1 H1 W D' (f d S) → Q v H1) :
    Ok X.K X.mg rel φ H (fun cls d H' => W cls d σ H') Q r := by
  cases r with
  | ok d S => exact fun φ1 H1 v l s q => k d S φ1 H1 v rfl l s q (OkS.later l h)
  | err x S => exact fun φ1 H1 c d l s q => h φ1 H1 σ c d l s (he.mono l) q
  | bad => exact h
end

def cNext : CS := fun ρ S => .nx ρ S
def cSeq (a b : CS) : CS := fun ρ S => (a ρ S).andThen b
section
variable {X : Cx} {W : WX} {st : Stmt} {rest : List Stmt} {pos : Pos} {e : Expr} {ce : C} {a b : CS}
theorem mss_nil : MSs X W [] cNext := ⟨pss_nil.imp fun D σ H h => by
  obtain ⟨ρ, φ, S, he, hs, h⟩ := h
  exact h φ H σ (Le.refl _ _) hs he⟩
theorem mss_cons (h1 : MS X W st a) (h2 : MSs X W rest b) : MSs X W (st :: rest) (cSeq a b) := by
  refine ⟨(pss_cons h1.ps h2.ps).imp fun D σ H h => ?_⟩
  obtain ⟨ρ, φ, S, he, hs, h⟩ := h
  refine ⟨ρ, φ, S, he, hs, ?_⟩
  unfold cSeq at h
  cases q : a ρ S with
  | nx ρ1 S1 =>
    rw [q] at h
    exact fun φ1 H1 σ1 l s re => ⟨ρ1, φ1, S1, re, s, OkS.later l h⟩
  | ret d S1 => rw [q] at h; exact h
  | brk ρ1 S1 => rw [q] at h; exact h
  | cnt ρ1 S1 => rw [q] at h; exact h
  | err x ρ1 S1 => rw [q] at h; exact h
  | bad => rw [q] at h; exact h
theorem mss_one (h1 : MS X W st a) : MSs X W [st] a := ⟨pss_one h1.ps⟩
theorem ms_pass : MS X W (.Pass pos) cNext := ⟨ps_pass.imp fun D σ H h => by
  obtain ⟨ρ, φ, S, he, hs, h⟩ := h
  exact h φ H σ (Le.refl _ _) hs he⟩
theorem ms_doc {x j pos'} : MS X W (.Expr (.Constant (.str x) j pos) pos') cNext := ⟨ps_doc.imp fun D σ H h => by
  obtain ⟨ρ, φ, S, he, hs, h⟩ := h
  exact h φ H σ (Le.refl _ _) hs he⟩
def cBrk : CS := fun ρ S => .brk ρ S
def cCnt : CS := fun ρ S => .cnt ρ S
theorem ms_brk : MS X W (.Break pos) cBrk := ⟨ps_break.imp fun D σ H h => by
  obtain ⟨ρ, φ, S, he, hs, h⟩ := h
  exact h φ H σ (Le.refl _ _) hs he⟩
theorem ms_cnt : MS X W (.Continue pos) cCnt := ⟨ps_continue.imp fun D σ H h => by
  obtain ⟨ρ, φ, S, he, hs, h⟩ := h
  exact h φ H σ (Le.refl _ _) hs he⟩
/-- an expression for what it does -/
def cDrop (c : C) : CS := fun ρ S => .of ρ (c ρ S) fun _ S => .nx ρ S
theorem ms_expr (he : ME X W e ce) (hs : swapsWith e none pos.line X.env = pure false := by rfl) : MS X W (.Expr e pos) (cDrop ce) := by
  refine ⟨(ps_expr he.pe hs).imp fun D σ H h => ?_⟩
  obtain ⟨ρ, φ, S, he, hs, h⟩ := h
  exact ⟨ρ, φ, S, he, hs, OkS.from he h fun d S1 φ1 H1 v q l s r z => z φ1 H1 σ (Le.refl _ _) s (he.mono l)⟩
def cRet (c : C) : CS := fun ρ S => .of ρ (c ρ S) fun d S => .ret d S
theorem ms_ret (he : ME X W e ce) : MS X W (.Return (some e) pos) (cRet ce) := by
  refine ⟨(ps_ret he.pe).imp fun D σ H h => ?_⟩
  obtain ⟨ρ, φ, S, he, hs, h⟩ := h
  exact ⟨ρ, φ, S, he, hs, OkS.from he h fun d S1 φ1 H1 v q l s r z => z φ1 H1 v (Le.refl _ _) s r⟩
def cRetN : CS := fun ρ S => .ret .non S
theorem ms_retN : MS X W (.Return none pos) cRetN := ⟨ps_retN.imp fun D σ H h => by
  obtain ⟨ρ, φ, S, he, hs, h⟩ := h
  exact h φ H .non (Le.refl _ _) hs .non⟩
def cIfS (t : CT) (a b : CS) : CS := fun ρ S => .of ρ (t ρ S) fun k S => if k = true then a ρ S else b ρ S
theorem ms_if {t : CT} {sa sb : List Stmt} (hc : MT X W e t) (ha : MSs X W sa a) (hb : MSs X W sb b) : MS X W (.If e sa sb pos) (cIfS t a b) := by
  refine ⟨(ps_if hc.pt ha.ps hb.ps).imp fun D σ H h => ?_⟩
  obtain ⟨ρ, φ, S, he, hs, h⟩ := h
  refine ⟨ρ, φ, S, he, hs, OkS.from he h fun k S1 φ1 H1 v q l s r z => ?_⟩
  cases r
  cases k with
  | true =>
    simp only [if_true] at z ⊢
    exact ⟨ρ, φ1, S1, he.mono l, s, z⟩
  | false =>
    simp only [Bool.false_eq_true, if_false] at z ⊢
    exact ⟨ρ, φ1, S1, he.mono l, s, z⟩
end

/-! ### targets -/
abbrev Tg := D → Ro → Option Ro
/-- only the slots sl are stored -/
def Only' (sl : List Nat) (σ σ' : L2.St) : Prop := ∀ vs : List Nat, (∀ i ∈ sl, i ∈ vs) → wipe σ' vs = wipe σ vs
structure GS (K : PySem.W.Frag) (g : TG) (t : Tg) (sl : List Nat) : Prop where
  go : ∀ φ H d v ρ ρ' σ Q, Rel K φ H d v → RE K φ H ρ σ → t d ρ = some ρ' → (∀ σ', RE K φ H ρ' σ' → Only' sl σ σ' → Q σ' H) → g v σ H Q
structure MG (X : Cx) (tg : Expr) (t : Tg) (sl : List Nat) : Prop where
  pg : ∃ g, PG X tg g ∧ GS X.K g t sl
def tgN (i : Nat) : Tg := fun d ρ => some (ρ.set i (some d))
def tgs : List Tg → List D → Ro → Option Ro
  | [], [], ρ => some ρ
  | t :: ts, d :: ds, ρ => match t d ρ with
    | some ρ' => tgs ts ds ρ'
    | none => none
  | _, _, _ => none
def tgT (ts : List Tg) : Tg := fun d ρ => match d with
  | .tup ds => tgs ts ds ρ
  | _ => none
structure GSs (K : PySem.W.Frag) (g : TGs) (ts : List Tg) (sl : List Nat) : Prop where
  go : ∀ φ H ds vs ρ ρ' σ Q, RelL K φ H ds vs → RE K φ H ρ σ → tgs ts ds ρ = some ρ' → (∀ σ', RE K φ H ρ' σ' → Only' sl σ σ' → Q σ' H) → g vs σ H Q
structure MGs (X : Cx) (es : List Expr) (ts : List Tg) (sl : List Nat) : Prop where
  pg : ∃ g, PGs X es g ∧ GSs X.K g ts sl
theorem tgs_len : ∀ {ts : List Tg} {ds : List D} {ρ ρ' : Ro}, tgs ts ds ρ = some ρ' → ds.length = ts.length
  | [], [], _, _, _ => rfl
  | t :: ts, d :: ds, ρ, ρ', h => by
    unfold tgs at h
    cases q : t d ρ with
    | none => simp only [q] at h; cases h
    | some r =>
      simp only [q] at h
      simp [tgs_len h]
  | [], _ :: _, _, _, h => by simp [tgs] at h
  | _ :: _, [], _, _, h => by simp [tgs] at h
theorem wipe_set : ∀ (vs : List Nat) (σ : L2.St) (i : Nat) (x : Option V), i ∈ vs → wipe (σ.set i x) vs = wipe σ vs := by
  intro vs
  induction vs with
  | nil => intro σ i x h; cases h
  | cons j vs ih =>
    intro σ i x h
    show (wipe (σ.set i x) vs).set j none = (wipe σ vs).set j none
    by_cases hi : i ∈ vs
    · rw [ih σ i x hi]
    · have e : i = j := by
        rcases List.mem_cons.mp h with e | e
        · exact e
        · exact absurd e hi
      subst e
      have out : ∀ (ws : List Nat) (σ : L2.St), i ∉ ws → wipe (σ.set i x) ws = (wipe σ ws).set i x := by
        intro ws
        induction ws with
        | nil => intro σ _; rfl
        | cons k ws ih2 =>
          intro σ hw
          show (wipe (σ.set i x) ws).set k none = ((wipe σ ws).set k none).set i x
          rw [ih2 σ (fun z => hw (List.mem_cons_of_mem _ z)), List.set_comm]
          intro z
          exact hw (by rw [z]; exact List.mem_cons_self)
      rw [out vs σ hi, List.set_set]
theorem wipe_idem (σ : L2.St) : ∀ vs : List Nat, wipe (wipe σ vs) vs = wipe σ vs := by
  have h : ∀ (ws vs : List Nat) (σ : L2.St), (∀ i ∈ ws, i ∈ vs) → wipe (wipe σ ws) vs = wipe σ vs := by
    intro ws
    induction ws with
    | nil => intro vs σ _; rfl
    | cons i ws ih =>
      intro vs σ hw
      show wipe ((wipe σ ws).set i none) vs = wipe σ vs
      rw [wipe_set vs _ i none (hw i List.mem_cons_self)]
      exact ih vs σ fun j hj => hw j (List.mem_cons_of_mem _ hj)
  exact fun vs => h vs vs σ fun _ z => z
section
variable {X : Cx} {pos : Pos}
theorem gs_name {K : PySem.W.Frag} (i : Nat) : GS K (gName i) (tgN i) [i] := ⟨fun φ H d v ρ ρ' σ Q r re e k => by
  cases e
  exact k _ (re.set r i) fun vs h => wipe_set vs σ i _ (h i List.mem_cons_self)⟩
theorem mg_name (i : Nat) {x : Str} (hN : X.N.Nodup) (hi : X.N[i]? = some x) (hx : Loc X.env.scope x) (hf : X.fn x = true ∨ X.env.scope.names.lookup x = some .local := by first | exact .inl rfl | exact .inr rfl | assumption) : MG X (.Name x pos) (tgN i) [i] :=
  ⟨gName i, pg_name hN hi hx hf, gs_name i⟩
theorem gss_nil {K : PySem.W.Frag} : GSs K gNil [] [] := ⟨fun φ H ds vs ρ ρ' σ Q r re e k => by
  cases r with
  | nil =>
    simp [tgs] at e
    subst e
    exact ⟨rfl, k σ re fun _ _ => rfl⟩
  | cons _ _ => simp [tgs] at e⟩
theorem gss_cons {K : PySem.W.Frag} {g : TG} {gs : TGs} {t : Tg} {ts : List Tg} {s1 s2 : List Nat} (h1 : GS K g t s1) (h2 : GSs K gs ts s2) : GSs K (gCons g gs) (t :: ts) (s1 ++ s2) := ⟨fun φ H ds vs ρ ρ' σ Q r re e k => by
  cases r with
  | nil => simp [tgs] at e
  | cons r rs =>
    rename_i d v ds vs
    unfold tgs at e
    cases q : t d ρ with
    | none => simp only [q] at e; cases e
    | some ρ1 =>
      simp only [q] at e
      exact ⟨v, vs, rfl, h1.go φ H d v ρ ρ1 σ _ r re q fun σ1 re1 o1 => h2.go φ H ds vs ρ1 ρ' σ1 _ rs re1 e fun σ2 re2 o2 => k σ2 re2 fun ws hw =>
        (o2 ws fun i hi => hw i (List.mem_append_right _ hi)).trans (o1 ws fun i hi => hw i (List.mem_append_left _ hi))⟩⟩
theorem mgs_nil : MGs X [] [] [] := ⟨gNil, pgs_nil, gss_nil⟩
theorem mgs_cons {e : Expr} {es : List Expr} {t : Tg} {ts : List Tg} {s1 s2 : List Nat} (h1 : MG X e t s1) (h2 : MGs X es ts s2)
    (hs : (assignEach (e :: es) X.env).map (·.2) = assign e X.env :: (assignEach es X.env).map (·.2) := by rfl) : MGs X (e :: es) (t :: ts) (s1 ++ s2) := by
  obtain ⟨g, p1, q1⟩ := h1.pg
  obtain ⟨gs, p2, q2⟩ := h2.pg
  exact ⟨_, pgs_cons p1 p2 hs, gss_cons q1 q2⟩
theorem mg_tup {es : List Expr} {k : Nat} {ts : List Tg} {sl : List Nat} (hc : X.calm = true) (h : MGs X es ts sl) (hl : (assignEach es X.env).length = ts.length := by rfl) (hst : (assignEach es X.env).findIdx? (·.1) = none := by rfl) : MG X (.Tuple es k pos) (tgT ts) sl := by
  obtain ⟨g, p, q⟩ := h.pg
  refine ⟨_, pg_tup (n := ts.length) hc p hl hst, ⟨fun φ H d v ρ ρ' σ Q r re e k => ?_⟩⟩
  cases r <;> try (simp [tgT] at e; done)
  rename_i a vs ds z f rs
  have e : tgs ts ds ρ = some ρ' := e
  exact ⟨a, vs, rfl, f.sq, by rw [← rs.length]; exact tgs_len e, q.go φ H ds vs ρ ρ' σ Q rs re e k⟩
end
def tgR (t : Tg) (d : D) (ρ : Ro) (f : Ro → RSt) : RSt := match t d ρ with
  | some ρ' => f ρ'
  | none => .bad
@[simp] theorem tgR_name (i : Nat) (d : D) (ρ : Ro) (f : Ro → RSt) : tgR (tgN i) d ρ f = f (ρ.set i (some d)) := (rfl)
/-! ### assignments -/
def cAsg (t : Tg) (c : C) : CS := fun ρ S => .of ρ (c ρ S) fun d S => tgR t d ρ fun ρ' => .nx ρ' S
section
variable {X : Cx} {W : WX} {pos : Pos} {e : Expr} {ce : C}
theorem asg_imp {te : TE} {g : TG} {t : Tg} {sl : List Nat} (hg : GS X.K g t sl) {D' : Ends} {σ : L2.St} {H : Hp} (h : rdS X W (cAsg t ce) D' σ H) : tAsg (rdE X W ce) g D' σ H := by
  obtain ⟨ρ, φ, S, he, hs, h⟩ := h
  refine ⟨ρ, φ, S, he, hs, OkS.from he h fun d S1 φ1 H1 v q l s r z => ?_⟩
  unfold tgR at z
  cases q2 : t d ρ with
  | none => simp only [q2] at z; exact z.elim
  | some ρ' =>
    simp only [q2] at z
    exact hg.go φ1 H1 d v ρ ρ' σ _ r (he.mono l) q2 fun σ' re _ => z φ1 H1 σ' (Le.refl _ _) s re
theorem ms_set (i : Nat) {x : Str} {pos' : Pos} (hN : X.N.Nodup) (hi : X.N[i]? = some x) (hx : Loc X.env.scope x) (he : ME X W e ce) (hs : swapsWith e (some (.Name x pos')) pos.line X.env = pure false := by rfl) (hf : X.fn x = true ∨ X.env.scope.names.lookup x = some .local := by first | exact .inl rfl | exact .inr rfl | assumption) :
    MS X W (.Assign [.Name x pos'] e pos) (cAsg (tgN i) ce) :=
  ⟨(ps_set hN hi hx he.pe hs hf).imp fun D σ H h => asg_imp (te := rdE X W ce) (gs_name i) h⟩
theorem ms_asg {tg : Expr} {t : Tg} {sl : List Nat} (he : ME X W e ce) (hg : MG X tg t sl) (hs : swapsWithSole [tg] e pos.line X.env = pure false := by rfl) (hw : swappedStores [tg] e X.env = pure none := by rfl)
    (h1 : (assignEach [tg] X.env).map (·.2) = [assign tg X.env] := by rfl) : MS X W (.Assign [tg] e pos) (cAsg t ce) := by
  obtain ⟨g, p, q⟩ := hg.pg
  exact ⟨(ps_asg he.pe p hs hw h1).imp fun D σ H h => asg_imp (te := rdE X W ce) q h⟩
/-- a, b = x, y of plain locals -/
def cPar (is : List Nat) (c : CA) : CS := fun ρ S => .of ρ (c ρ S) fun ds S => match tgs (is.map tgN) ds ρ with
  | some ρ' => .nx ρ' S
  | none => .bad
theorem ms_par {i j : Nat} {x y : Str} {a b : Expr} {ca : CA} {px py pt : Pos} {kt k2 pt2} (hc : X.calm = true) (hN : X.N.Nodup) (hi : X.N[i]? = some x) (hj : X.N[j]? = some y) (hij : i ≠ j)
    (hx : X.env.scope.names.lookup x = some .local) (hy : X.env.scope.names.lookup y = some .local) (ha : MA X W [a, b] ca)
    (hw : swappedStores [.Tuple [.Name x px, .Name y py] kt pt] (.Tuple [a, b] k2 pt2) X.env = pure (some [x, y]))
    (hs : swapsWithSole [.Tuple [.Name x px, .Name y py] kt pt] (.Tuple [a, b] k2 pt2) pos.line X.env = pure false := by rfl) :
    MS X W (.Assign [.Tuple [.Name x px, .Name y py] kt pt] (.Tuple [a, b] k2 pt2) pos) (cPar [i, j] ca) := by
  refine ⟨(ps_par hc hN hi hj hij hx hy ha.pa hw hs).imp fun D σ H h => ?_⟩
  obtain ⟨ρ, φ, S, he, hs, h⟩ := h
  refine ⟨ρ, φ, S, he, hs, OkS.from he h fun ds S1 φ1 H1 vs q l s r z => ?_⟩
  cases r with
  | nil => exact z.elim
  | cons r1 r =>
    cases r with
    | nil => exact z.elim
    | cons r2 r =>
      cases r with
      | cons _ _ => exact z.elim
      | nil => exact ⟨_, _, rfl, z φ1 H1 _ (Le.refl _ _) s (((he.mono l).set r1 i).set r2 j)⟩
theorem ms_par3 {i j k : Nat} {x y z : Str} {a b c : Expr} {ca : CA} {px py pz pt : Pos} {kt k2 pt2} (hc : X.calm = true) (hN : X.N.Nodup) (hi : X.N[i]? = some x) (hj : X.N[j]? = some y) (hk : X.N[k]? = some z) (hij : i ≠ j) (hik : i ≠ k) (hjk : j ≠ k)
    (h : PS X (.Assign [.Tuple [.Name x px, .Name y py, .Name z pz] kt pt] (.Tuple [a, b, c] k2 pt2) pos) (tPar3 i j k (rdA X W ca))) :
    MS X W (.Assign [.Tuple [.Name x px, .Name y py, .Name z pz] kt pt] (.Tuple [a, b, c] k2 pt2) pos) (cPar [i, j, k] ca) := by
  refine ⟨h.imp fun D σ H h => ?_⟩
  obtain ⟨ρ, φ, S, he, hs, h⟩ := h
  refine ⟨ρ, φ, S, he, hs, OkS.from he h fun ds S1 φ1 H1 vs q l s r z => ?_⟩
  cases r with
  | nil => exact z.elim
  | cons r1 r =>
    cases r with
    | nil => exact z.elim
    | cons r2 r =>
      cases r with
      | nil => exact z.elim
      | cons r3 r =>
        cases r with
        | cons _ _ => exact z.elim
        | nil => exact ⟨_, _, _, rfl, z φ1 H1 _ (Le.refl _ _) s ((((he.mono l).set r1 i).set r2 j).set r3 k)⟩
/-- x op= e -/
def cAug (i : Nat) (g : G2) (c : C) : CS := fun ρ S => match ρ[i]? with
  | some (some x) => .of ρ (c ρ S) fun y S => .of ρ (g x y S) fun z S => .nx (ρ.set i (some z)) S
  | _ => .bad
theorem ms_aug (i : Nat) {x : Str} {op : Operator} {g : G2} {pos' : Pos} (ho : OS X (inplaceOp op) g) (hN : X.N.Nodup) (hi : X.N[i]? = some x) (hx : Loc X.env.scope x) (he : ME X W e ce) (hf : X.fn x = true ∨ X.env.scope.names.lookup x = some .local := by first | exact .inl rfl | exact .inr rfl | assumption) :
    MS X W (.AugAssign (.Name x pos') op e pos) (cAug i g ce) := by
  obtain ⟨r, hr, k⟩ := ho
  refine ⟨(ps_aug (ti := r) hN hi hx he.pe (fun pins s σ H x y v u Q I rx ry h => hr pins s σ H x y v u Q I rx ry h) hf).imp fun D σ H h => ?_⟩
  obtain ⟨ρ, φ, S, he, hs, h⟩ := h
  unfold cAug at h
  split at h
  · rename_i d q
    obtain ⟨v, e1, rv⟩ := he.2 i d q
    refine ⟨v, e1, ρ, φ, S, he, hs, OkS.from he h fun y S1 φ1 H1 vy q2 l s ry z => ?_⟩
    refine k W σ φ1 H1 S1 d y v vy _ s (rv.mono l) ry (OkS.from (he.mono l) z fun w S2 φ2 H2 vw q3 l2 s2 rw' z2 => ?_)
    exact z2 φ2 H2 _ (Le.refl _ _) s2 (((he.mono l).mono l2).set rw' i)
  · exact h.elim
end
end MP

/-! MP: what is walked, for, while, comprehensions. -/
namespace MP
open PySem PySem.Spec PyProof.Rows L2

/-! ### what is walked -/
structure IR (K : PySem.W.Frag) (φ : Phi) (H : Hp) (ds : List D) (J : It) : Prop where
  go : ∀ φ' H', Le φ H φ' H' → ∀ i, i < ds.length → J.go i H'
  yld : ∀ φ' H' S', Le φ H φ' H' → RS K φ' H' S' → ∀ i d x H'', ds[i]? = some d → J.yld i H' x H'' → Le φ' H' φ' H'' ∧ RS K φ' H'' S' ∧ Rel K φ' H'' d x
  stop : ∀ φ' H', Le φ H φ' H' → J.stop ds.length H'
abbrev CI := Ro → Sto → R (List D)
def rdI (X : Cx) (W : WX) (c : CI) : TI := fun σ H Q => ∃ ρ φ S, RE X.K φ H ρ σ ∧ RS X.K φ H S ∧ Ok X.K X.mg (IR X.K) φ H (fun cls d H' => W cls d σ H') Q (c ρ S)
structure MI (X : Cx) (W : WX) (tg iter : Expr) (c : CI) : Prop where
  pi : PI X tg iter (rdI X W c)
theorem _root_.L2.PI.imp {X : Cx} {tg iter : Expr} {t u : TI} (h : PI X tg iter t) (k : ∀ σ H Q, u σ H Q → t σ H Q) : PI X tg iter u := ⟨fun pins s σ H Q I z => h.run pins s σ H Q I (k σ H Q z)⟩
section
variable {K : PySem.W.Frag} {φ : Phi} {H : Hp} {a : Addr} {vs : List V} {ds : List D} {X : Cx}
/-- a list that is never changed any more is the same later -/
theorem FR.later {φ' : Phi} {H' : Hp} (e : Le φ H φ' H') (h : FR K φ H a vs) : FR K φ' H' a vs := by
  rcases h with ⟨f, w⟩ | f
  · exact .inl (e.rd f w)
  · exact .inr f
theorem FT.later {φ' : Phi} {H' : Hp} (e : Le φ H φ' H') (h : FT K φ H a vs) : FT K φ' H' a vs := by
  rcases h with ⟨f, w⟩ | f
  · exact .inl (e.rd f w)
  · exact .inr f
theorem ir_list (h : FR K φ H a vs) (r : RelL K φ H ds vs) : IR K φ H ds (Itl K a) where
  go := fun φ' H' e i hi => by
    obtain ⟨x, hx⟩ : ∃ x, vs[i]? = some x := ⟨vs[i]'(by rw [← r.length]; exact hi), by simp⟩
    exact ⟨vs, x, (h.later e).sq, hx⟩
  yld := fun φ' H' S' e s i d x H'' hd y => by
    obtain ⟨e1, y⟩ := y
    subst e1
    obtain ⟨v, hv, rv⟩ := r.get hd
    have := y vs (h.later e).sq
    rw [hv] at this
    cases this
    exact ⟨Le.refl _ _, s, rv.mono e⟩
  stop := fun φ' H' e => ⟨vs, (h.later e).sq, by rw [r.length]; exact Nat.le_refl _⟩
theorem ir_tup (h : FT K φ H a vs) (r : RelL K φ H ds vs) : IR K φ H ds (Itt K a) where
  go := fun φ' H' e i hi => by
    obtain ⟨x, hx⟩ : ∃ x, vs[i]? = some x := ⟨vs[i]'(by rw [← r.length]; exact hi), by simp⟩
    exact ⟨vs, x, (h.later e).sq, hx⟩
  yld := fun φ' H' S' e s i d x H'' hd y => by
    obtain ⟨e1, y⟩ := y
    subst e1
    obtain ⟨v, hv, rv⟩ := r.get hd
    have := y vs (h.later e).sq
    rw [hv] at this
    cases this
    exact ⟨Le.refl _ _, s, rv.mono e⟩
  stop := fun φ' H' e => ⟨vs, (h.later e).sq, by rw [r.length]; exact Nat.le_refl _⟩
def rngD (lo : Int) (n : Nat) : List D := (List.range n).map fun (k : Nat) => D.int (lo + (k : Int))
theorem rngD_length (lo : Int) (n : Nat) : (rngD lo n).length = n := by simp [rngD]
theorem ir_rng (lo : Int) (n : Nat) : IR K φ H (rngD lo n) (Itr lo n) where
  go := fun φ' H' e i hi => by rw [rngD_length] at hi; exact hi
  yld := fun φ' H' S' e s i d x H'' hd y => by
    obtain ⟨e1, e2⟩ := y
    subst e1 e2
    have : d = .int (lo + (i : Int)) := by
      have hi := (List.getElem?_eq_some_iff.mp hd).1
      rw [rngD_length] at hi
      simp [rngD, List.getElem?_range hi] at hd
      exact hd.symm
    subst this
    exact ⟨Le.refl _ _, s, .int _⟩
  stop := fun φ' H' e => by rw [rngD_length]; exact Nat.le_refl _
end
section
variable {X : Cx} {tg : Expr}
/-- a list or a tuple -/
theorem pi_either {l : Expr} {tl : TE} (hl : PE X l tl) : PI X tg l (fun σ H R => tl σ H fun x H1 => ∃ a, x = .ref a ∧ (((∃ xs, SqL X.K H1 a xs) ∧ R (Itl X.K a) H1) ∨ ((∃ xs, SqT X.K H1 a xs) ∧ R (Itt X.K a) H1))) := by
  constructor
  intro pins s σ H R I h
  refine thn (hl.run pins s σ H _ I h) ?_
  rintro v s1 ⟨x, H1, I1, r1, a, rfl, q⟩
  cases r1
  have fp : ∀ b, b ∈ [s1.heap.objs.size] → FpOk X pins H1 b := by
    intro b hb
    have e : b = s1.heap.objs.size := by simpa using hb
    rw [e]
    exact I1.fpOk (Nat.le_refl _) I1.fresh
  rcases q with ⟨⟨xs, hq⟩, q⟩ | ⟨⟨xs, hq⟩, q⟩
  · obtain ⟨its, rv, p, hz⟩ := I1.list hq
    refine wpAny_pyIter_list p.isList ?_
    have J1 := I1.kept (h' := s1.heap.push { cls := .type "list_iterator", data := .fields #[.ref a, rawInt 0] }) (t' := s1.toks) fun b o e => Heap.get?_push_of_some _ e
    exact ⟨_, _, _, _, H1, rfl, J1, turn_list a _, ⟨_, Heap.get?_push_size _ rfl, rfl, rfl⟩, fp, q⟩
  · obtain ⟨its, rv, p, hz⟩ := I1.tuple hq
    have p' : s1.heap.IsTuple a its.toArray := p
    refine wpAny_pyIter_tuple p' ?_
    have J1 := I1.kept (h' := s1.heap.push { cls := .type "tuple_iterator", data := .fields #[.ref a, rawInt 0] }) (t' := s1.toks) fun b o e => Heap.get?_push_of_some _ e
    exact ⟨_, _, _, _, H1, rfl, J1, turn_tuple a _, ⟨_, Heap.get?_push_size _ rfl, rfl, rfl⟩, fp, q⟩
end
/-- the items of a list or tuple -/
def ciSeq (c : C) : CI := fun ρ S => (c ρ S).bind fun d S => match d with
  | .tup ds => .ok ds S
  | .lst ds => .ok ds S
  | .rol ds => .ok ds S
  | _ => .bad
def ciR1 (a : CA) : CI := fun ρ S => (a ρ S).bind fun ds S => match ds with
  | [.int n] => if -16000000 ≤ n ∧ n ≤ 16000000 then .ok (rngD 0 n.toNat) S else .bad
  | _ => .bad
def ciR2 (a : CA) : CI := fun ρ S => (a ρ S).bind fun ds S => match ds with
  | [.int m, .int n] => if -16000000 ≤ m ∧ m ≤ 16000000 ∧ -16000000 ≤ n ∧ n ≤ 16000000 then .ok (rngD m (n - m).toNat) S else .bad
  | _ => .bad
section
variable {X : Cx} {W : WX} {tg e a b : Expr} {ce : C} {ca : CA} {p pos : Pos}
theorem mi_seq (he : ME X W e ce) : MI X W tg e (ciSeq ce) := by
  refine ⟨(pi_either he.pe).imp fun σ H Q h => ?_⟩
  obtain ⟨ρ, φ, S, hE, hs, h⟩ := h
  refine ⟨ρ, φ, S, hE, hs, h.step fun d S1 φ1 H1 v q l s r z => ?_⟩
  cases r <;> try exact z.elim
  · rename_i a vs ds zz f rr
    exact ⟨a, rfl, .inr ⟨⟨vs, f.sq⟩, z φ1 H1 _ (Le.refl _ _) s (ir_tup f rr)⟩⟩
  · rename_i a vs ds zz f w rr
    exact ⟨a, rfl, .inl ⟨⟨vs, SqL.of f⟩, z φ1 H1 _ (Le.refl _ _) s (ir_list (.inl ⟨.inl f, w⟩) rr)⟩⟩
  · rename_i a vs ds zz f rr
    exact ⟨a, rfl, .inl ⟨⟨vs, f.sq⟩, z φ1 H1 _ (Le.refl _ _) s (ir_list f rr)⟩⟩
theorem p62 : (16000000 : Int) < 2 ^ 62 := by decide
theorem mi_r1 (hg : Gl X "range") (hm : X.mg "range" = none) (ha : MA X W [a] ca) (hs : starEach [a] X.env = [(false, eval a X.env)] := by rfl) : MI X W tg (.Call (.Name "range" p) [a] [] pos) (ciR1 ca) := by
  refine ⟨(pi_range1 hg hm ha.pa hs).imp fun σ H Q h => ?_⟩
  obtain ⟨ρ, φ, S, hE, hs, h⟩ := h
  refine ⟨ρ, φ, S, hE, hs, h.step fun ds S1 φ1 H1 vs q l s r z => ?_⟩
  have p62 := p62
  cases r with
  | nil => exact z.elim
  | cons r1 r =>
    cases r with
    | cons _ _ => cases r1 <;> exact z.elim
    | nil =>
      cases r1 <;> try exact z.elim
      rename_i n
      by_cases hn : -16000000 ≤ n ∧ n ≤ 16000000
      · simp only [hn, and_self, if_true] at z
        exact ⟨n, rfl, by omega, by omega, z φ1 H1 _ (Le.refl _ _) s (ir_rng 0 n.toNat)⟩
      · simp only [hn, if_false] at z
        exact z.elim
theorem mi_r2 (hg : Gl X "range") (hm : X.mg "range" = none) (ha : MA X W [a, b] ca) (hs : starEach [a, b] X.env = [(false, eval a X.env), (false, eval b X.env)] := by rfl) (hs2 : starEach [b] X.env = [(false, eval b X.env)] := by rfl) : MI X W tg (.Call (.Name "range" p) [a, b] [] pos) (ciR2 ca) := by
  refine ⟨(pi_range2 hg hm ha.pa hs hs2).imp fun σ H Q h => ?_⟩
  obtain ⟨ρ, φ, S, hE, hs, h⟩ := h
  refine ⟨ρ, φ, S, hE, hs, h.step fun ds S1 φ1 H1 vs q l s r z => ?_⟩
  have p62 := p62
  cases r with
  | nil => exact z.elim
  | cons r1 r =>
    cases r with
    | nil => cases r1 <;> exact z.elim
    | cons r2 r =>
      cases r with
      | cons _ _ => cases r1 <;> cases r2 <;> exact z.elim
      | nil =>
        cases r1 <;> try exact z.elim
        cases r2 <;> try exact z.elim
        rename_i m n
        by_cases hn : -16000000 ≤ m ∧ m ≤ 16000000 ∧ -16000000 ≤ n ∧ n ≤ 16000000
        · simp only [hn, and_self, if_true] at z
          exact ⟨m, n, rfl, ⟨by omega, by omega, by omega, by omega⟩, z φ1 H1 _ (Le.refl _ _) s (ir_rng m (n - m).toNat)⟩
        · simp only [hn, if_false] at z
          exact z.elim
end

/-! ### for -/
def forL (t : Tg) (body : CS) : List D → CS
  | [], ρ, S => .nx ρ S
  | d :: ds, ρ, S => tgR t d ρ fun ρ1 => match body ρ1 S with
    | .nx ρ2 S2 => forL t body ds ρ2 S2
    | .cnt ρ2 S2 => forL t body ds ρ2 S2
    | .brk ρ2 S2 => .nx ρ2 S2
    | .ret d S2 => .ret d S2
    | .err x ρ2 S2 => .err x ρ2 S2
    | .bad => .bad
def cFor (ci : CI) (t : Tg) (body : CS) : CS := fun ρ S => .of ρ (ci ρ S) fun ds S => forL t body ds ρ S
theorem ms_for {X : Cx} {W : WX} {tg iter : Expr} {body : List Stmt} {ci : CI} {t : Tg} {sl : List Nat} {cb : CS} {pos : Pos} (hp : PassesOwn (model X.prog X.w) X.A X.env X.xe) (hc : X.calm = true) (hi : MI X W tg iter ci) (hg : MG X tg t sl) (hb : MSs X W body cb)
    (hs : ∀ x, foldedSetIterable iter X.env x = pure x := by intro _; rfl) : MS X W (.For tg iter body [] pos) (cFor ci t cb) := by
  obtain ⟨g, pg, gs⟩ := hg.pg
  refine ⟨(ps_for hp hc hi.pi pg hb.ps hs).imp fun D' σ H h => ?_⟩
  obtain ⟨ρ, φ, S, hE, hs, h⟩ := h
  refine ⟨ρ, φ, S, hE, hs, OkS.from hE h fun ds S1 φ1 H1 J q l s ir z => ?_⟩
  refine ⟨fun i m σ H => i + m = ds.length ∧ ∃ ρ φ S, Le φ1 H1 φ H ∧ RE X.K φ H ρ σ ∧ RS X.K φ H S ∧ OkS X.K X.mg φ H W D' (forL t cb (ds.drop i) ρ S), ⟨ds.length, by omega, ρ, φ1, S1, Le.refl _ _, hE.mono l, s, z⟩, ?_⟩
  rintro i m σ H ⟨e, ρ, φ, S, l2, hE, hs, h⟩
  by_cases hi : i < ds.length
  · refine .inr ⟨ir.go φ H l2 i hi, fun σ' H' => ∃ ρ φ S, Le φ1 H1 φ H' ∧ RE X.K φ H' ρ σ' ∧ RS X.K φ H' S ∧ OkS X.K X.mg φ H' W D' (forL t cb (ds.drop (i + 1)) ρ S), fun σ' H' n => ⟨m - 1, by omega, by omega, n⟩, fun x H' y => ?_⟩
    obtain ⟨l3, s3, rx⟩ := ir.yld φ H S l2 hs i ds[i] x H' (by simp [hi]) y
    have h := OkS.later l3 h
    rw [List.drop_eq_getElem_cons hi] at h
    unfold forL tgR at h
    cases q3 : t ds[i] ρ with
    | none => simp only [q3] at h; exact h.elim
    | some ρ1 =>
      simp only [q3] at h
      refine gs.go φ H' _ x ρ ρ1 σ _ rx (hE.mono l3) q3 fun σ1 re1 _ => ⟨ρ1, φ, S, re1, s3, ?_⟩
      cases q4 : cb ρ1 S with
      | nx ρ2 S2 =>
        simp only [q4] at h
        exact fun φ4 H4 σ4 l4 s4 re4 => ⟨ρ2, φ4, S2, (l2.trans l3).trans l4, re4, s4, OkS.later l4 h⟩
      | cnt ρ2 S2 =>
        simp only [q4] at h
        exact fun φ4 H4 σ4 l4 s4 re4 => ⟨ρ2, φ4, S2, (l2.trans l3).trans l4, re4, s4, OkS.later l4 h⟩
      | brk ρ2 S2 => simp only [q4] at h; exact h
      | ret d S2 => simp only [q4] at h; exact h
      | err x ρ2 S2 => simp only [q4] at h; exact h
      | bad => simp only [q4] at h; exact h
  · have e2 : i = ds.length := by omega
    subst e2
    rw [List.drop_length] at h
    exact .inl ⟨ir.stop φ H l2, h φ H σ (Le.refl _ _) hs hE⟩

/-! ### while -/
def whileN (t : CT) (body : CS) : Nat → Ro → Sto → Option RSt
  | 0, _, _ => none
  | n + 1, ρ, S => match t ρ S with
    | .ok true S1 => match body ρ S1 with
      | .nx ρ2 S2 => whileN t body n ρ2 S2
      | .cnt ρ2 S2 => whileN t body n ρ2 S2
      | .brk ρ2 S2 => some (.nx ρ2 S2)
      | .ret d S2 => some (.ret d S2)
      | .err x ρ2 S2 => some (.err x ρ2 S2)
      | .bad => some .bad
    | .ok false S1 => some (.nx ρ S1)
    | .err x S1 => some (.err x ρ S1)
    | .bad => some .bad
theorem whileN_more (t : CT) (body : CS) : ∀ (n : Nat) (ρ : Ro) (S : Sto) (r : RSt) (k : Nat), whileN t body n ρ S = some r → whileN t body (n + k) ρ S = some r := by
  intro n
  induction n with
  | zero => intro ρ S r k h; cases h
  | succ n ih =>
    intro ρ S r k h
    rw [Nat.succ_add]
    unfold whileN at h ⊢
    cases q : t ρ S with
    | ok b S1 =>
      cases b with
      | true =>
        simp only [q] at h ⊢
        cases q2 : body ρ S1 with
        | nx ρ2 S2 => simp only [q2] at h ⊢; exact ih _ _ _ _ h
        | cnt ρ2 S2 => simp only [q2] at h ⊢; exact ih _ _ _ _ h
        | brk ρ2 S2 => simp only [q2] at h ⊢; exact h
        | ret d S2 => simp only [q2] at h ⊢; exact h
        | err x ρ2 S2 => simp only [q2] at h ⊢; exact h
        | bad => simp only [q2] at h ⊢; exact h
      | false => simp only [q] at h ⊢; exact h
    | err x S1 => simp only [q] at h ⊢; exact h
    | bad => simp only [q] at h ⊢; exact h
theorem whileN_inj {t : CT} {body : CS} {n m : Nat} {ρ : Ro} {S : Sto} {r r' : RSt} (h : whileN t body n ρ S = some r) (h' : whileN t body m ρ S = some r') : r = r' := by
  have h1 := whileN_more t body n ρ S r m h
  have h2 := whileN_more t body m ρ S r' n h'
  rw [Nat.add_comm] at h2
  rw [h1] at h2
  exact Option.some.inj h2
open Classical in
noncomputable def cWhile (t : CT) (body : CS) : CS := fun ρ S => if h : ∃ r n, whileN t body n ρ S = some r then Classical.choose h else .bad
theorem cWhile_of {t : CT} {body : CS} {n : Nat} {ρ : Ro} {S : Sto} {r : RSt} (h : whileN t body n ρ S = some r) : cWhile t body ρ S = r := by
  unfold cWhile
  have hx : ∃ r n, whileN t body n ρ S = some r := ⟨r, n, h⟩
  rw [dif_pos hx]
  obtain ⟨m, hm⟩ := Classical.choose_spec hx
  exact whileN_inj hm h
theorem cWhile_ends {t : CT} {body : CS} {ρ : Ro} {S : Sto} (h : cWhile t body ρ S ≠ .bad) : ∃ n, whileN t body n ρ S = some (cWhile t body ρ S) := by
  unfold cWhile at h ⊢
  by_cases hx : ∃ r n, whileN t body n ρ S = some r
  · rw [dif_pos hx]
    exact Classical.choose_spec hx
  · rw [dif_neg hx] at h
    exact absurd rfl h
/-- one turn -/
theorem cWhile_go {t : CT} {body : CS} {ρ ρ2 : Ro} {S S1 S2 : Sto} (ht : t ρ S = .ok true S1) (hb : body ρ S1 = .nx ρ2 S2) : cWhile t body ρ S = cWhile t body ρ2 S2 := by
  by_cases h : cWhile t body ρ2 S2 = .bad
  · by_cases h' : cWhile t body ρ S = .bad
    · rw [h, h']
    · obtain ⟨n, hn⟩ := cWhile_ends h'
      cases n with
      | zero => cases hn
      | succ n =>
        unfold whileN at hn
        simp only [ht, hb] at hn
        exact (cWhile_of hn).symm
  · obtain ⟨n, hn⟩ := cWhile_ends h
    refine cWhile_of (n := n + 1) ?_
    unfold whileN
    simp only [ht, hb]
    exact hn
theorem cWhile_end {t : CT} {body : CS} {ρ : Ro} {S S1 : Sto} (ht : t ρ S = .ok false S1) : cWhile t body ρ S = .nx ρ S1 := by
  refine cWhile_of (n := 1) ?_
  unfold whileN
  simp only [ht]
theorem cWhile_ret {t : CT} {body : CS} {ρ : Ro} {S S1 S2 : Sto} {d : D} (ht : t ρ S = .ok true S1) (hb : body ρ S1 = .ret d S2) : cWhile t body ρ S = .ret d S2 := by
  refine cWhile_of (n := 1) ?_
  unfold whileN
  simp only [ht, hb]
theorem cWhile_brk {t : CT} {body : CS} {ρ ρ2 : Ro} {S S1 S2 : Sto} (ht : t ρ S = .ok true S1) (hb : body ρ S1 = .brk ρ2 S2) : cWhile t body ρ S = .nx ρ2 S2 := by
  refine cWhile_of (n := 1) ?_
  unfold whileN
  simp only [ht, hb]
theorem cWhile_cnt {t : CT} {body : CS} {ρ ρ2 : Ro} {S S1 S2 : Sto} (ht : t ρ S = .ok true S1) (hb : body ρ S1 = .cnt ρ2 S2) : cWhile t body ρ S = cWhile t body ρ2 S2 := by
  by_cases h : cWhile t body ρ2 S2 = .bad
  · by_cases h' : cWhile t body ρ S = .bad
    · rw [h, h']
    · obtain ⟨n, hn⟩ := cWhile_ends h'
      cases n with
      | zero => cases hn
      | succ n =>
        unfold whileN at hn
        simp only [ht, hb] at hn
        exact (cWhile_of hn).symm
  · obtain ⟨n, hn⟩ := cWhile_ends h
    refine cWhile_of (n := n + 1) ?_
    unfold whileN
    simp only [ht, hb]
    exact hn
theorem cWhile_err {t : CT} {body : CS} {ρ ρ2 : Ro} {S S1 S2 : Sto} {x : Exn} (ht : t ρ S = .ok true S1) (hb : body ρ S1 = .err x ρ2 S2) : cWhile t body ρ S = .err x ρ2 S2 := by
  refine cWhile_of (n := 1) ?_
  unfold whileN
  simp only [ht, hb]
theorem ms_while {X : Cx} {W : WX} {c : Expr} {body : List Stmt} {t : CT} {cb : CS} {pos : Pos} (hp : PassesOwn (model X.prog X.w) X.A X.env X.xe) (hc : MT X W c t) (hb : MSs X W body cb) : MS X W (.While c body [] pos) (cWhile t cb) := by
  refine ⟨(ps_while hp hc.pt hb.ps).imp fun D' σ H h => ?_⟩
  obtain ⟨ρ, φ, S, hE, hs, h⟩ := h
  have hb : cWhile t cb ρ S ≠ .bad := fun e => by rw [e] at h; exact h
  obtain ⟨n, hn⟩ := cWhile_ends hb
  generalize cWhile t cb ρ S = r at h hn
  refine ⟨fun m σ H => ∃ ρ φ S r, RE X.K φ H ρ σ ∧ RS X.K φ H S ∧ whileN t cb m ρ S = some r ∧ OkS X.K X.mg φ H W D' r, ⟨n, ρ, φ, S, r, hE, hs, hn, h⟩, ?_⟩
  rintro m σ H ⟨ρ, φ, S, r, hE, hs, hn, h⟩
  cases m with
  | zero => cases hn
  | succ m =>
    unfold whileN at hn
    cases q : t ρ S with
    | bad =>
      simp only [q] at hn
      cases hn
      exact h.elim
    | err x S1 =>
      simp only [q] at hn
      cases hn
      refine ⟨ρ, φ, S, hE, hs, ?_⟩
      rw [q]
      exact fun φ1 H1 c d l s rx => h φ1 H1 σ c d l s (hE.mono l) rx
    | ok b S1 =>
      refine ⟨ρ, φ, S, hE, hs, ?_⟩
      rw [q]
      intro φ1 H1 b' l s e
      cases e
      cases b with
      | false =>
        simp only [q] at hn
        cases hn
        simp only [Bool.false_eq_true, if_false]
        exact h φ1 H1 σ l s (hE.mono l)
      | true =>
        simp only [q] at hn
        simp only [if_true]
        refine ⟨fun σ' H' => ∃ ρ φ S r, RE X.K φ H' ρ σ' ∧ RS X.K φ H' S ∧ whileN t cb m ρ S = some r ∧ OkS X.K X.mg φ H' W D' r, fun σ' H' n => ⟨m, by omega, n⟩, ρ, φ1, S1, hE.mono l, s, ?_⟩
        have h := OkS.later l h
        cases q2 : cb ρ S1 with
        | nx ρ2 S2 => simp only [q2] at hn; exact fun φ4 H4 σ4 l4 s4 re4 => ⟨ρ2, φ4, S2, r, re4, s4, hn, OkS.later l4 h⟩
        | cnt ρ2 S2 => simp only [q2] at hn; exact fun φ4 H4 σ4 l4 s4 re4 => ⟨ρ2, φ4, S2, r, re4, s4, hn, OkS.later l4 h⟩
        | brk ρ2 S2 => simp only [q2] at hn; cases hn; exact h
        | ret d S2 => simp only [q2] at hn; cases hn; exact h
        | err x ρ2 S2 => simp only [q2] at hn; cases hn; exact h
        | bad => simp only [q2] at hn; cases hn; exact h
end MP

/-! MP: displays, places, slices, built-ins, changes of the store, comprehensions. -/
namespace MP
open PySem PySem.Spec PyProof.Rows L2

/-! ### displays -/
def cTup (a : CA) : C := fun ρ S => (a ρ S).bind fun ds S => .ok (.tup ds) S
def cLst (a : CA) : C := fun ρ S => (a ρ S).bind fun ds S => .ok (.lst ds) S
section
variable {X : Cx} {W : WX} {es : List Expr} {ca : CA} {pos : Pos}
theorem Ok.stepA {α' β' : Type} {rel' : Phi → Hp → α' → β' → Prop} {σ : L2.St} {φ : Phi} {H : Hp} {ρ : Ro} {S : Sto} {Q : List V → Hp → Prop} {Q' : β' → Hp → Prop} {f : List D → Sto → R α'} (ha : MA X W es ca)
    (h : Ok X.K X.mg rel' φ H (fun cls d H' => W cls d σ H') Q' ((ca ρ S).bind f)) (k : ∀ ds S φ1 H1 vs, ds.length = es.length → vs.length = es.length → Le φ H φ1 H1 → RS X.K φ1 H1 S → RelL X.K φ1 H1 ds vs → Ok X.K X.mg rel' φ1 H1 (fun cls d H' => W cls d σ H') Q' (f ds S) → Q vs H1) :
    Ok X.K X.mg (RelL X.K) φ H (fun cls d H' => W cls d σ H') Q (ca ρ S) :=
  h.step fun ds S1 φ1 H1 vs q l s r z => k ds S1 φ1 H1 vs (ha.len _ _ _ _ q) (by rw [← r.length]; exact ha.len _ _ _ _ q) l s r z
theorem me_tup {x1} (ha : MA X W es ca) (hl : es.length ≤ 16000000 := by decide) : ME X W (.Tuple es x1 pos) (cTup ca) := by
  refine ⟨(pe_tup ha.pa).imp fun σ H Q h => ?_⟩
  obtain ⟨ρ, φ, S, hE, hs, h⟩ := h
  refine ⟨ρ, φ, S, hE, hs, Ok.stepA ha h fun ds S1 φ1 H1 vs l1 l2 l s r z => ?_⟩
  refine ⟨line_ge (by omega), fun p hp => z φ1 _ _ (Le.fresh hp) (s.laid hp) ?_⟩
  exact .tup (line_ge (by omega)) (.inl ⟨.inl upd_same, s.fresh hp⟩) (r.laid hp)
theorem me_lst (ha : MA X W es ca) (hl : es.length ≤ 16000000 := by decide) : ME X W (.List es pos) (cLst ca) := by
  refine ⟨(pe_lst ha.pa).imp fun σ H Q h => ?_⟩
  obtain ⟨ρ, φ, S, hE, hs, h⟩ := h
  refine ⟨ρ, φ, S, hE, hs, Ok.stepA ha h fun ds S1 φ1 H1 vs l1 l2 l s r z => ?_⟩
  refine ⟨line_ge (by omega), fun p hp => z φ1 _ _ (Le.fresh hp) (s.laid hp) ?_⟩
  exact .lst (line_ge (by omega)) upd_same (s.fresh hp) (r.laid hp)
end

/-! ### a new changeable object -/
section
variable {α : Type}
/-- at the k-th level from the top -/
def newAt : Nat → List (List α) → α → Option (Nat × Nat × List (List α))
  | _, [], _ => none
  | 0, r :: rs, o => some (rs.length, r.length, (r ++ [o]) :: rs)
  | k + 1, r :: rs, o => match newAt k rs o with
    | some (l, i, rs') => some (l, i, r :: rs')
    | none => none
theorem newAt_len : ∀ {k : Nat} {rs rs' : List (List α)} {o : α} {l i : Nat}, newAt k rs o = some (l, i, rs') → rs'.length = rs.length
  | _, [], _, _, _, _, h => by simp [newAt] at h
  | 0, r :: rs, _, o, l, i, h => by
    simp only [newAt, Option.some.injEq, Prod.mk.injEq] at h
    obtain ⟨_, _, e⟩ := h
    rw [← e]; rfl
  | k + 1, r :: rs, rs', o, l, i, h => by
    unfold newAt at h
    cases q : newAt k rs o with
    | none => simp only [q] at h; cases h
    | some t =>
      obtain ⟨l2, i2, r2⟩ := t
      simp only [q, Option.some.injEq, Prod.mk.injEq] at h
      obtain ⟨_, _, e⟩ := h
      rw [← e, List.length_cons, List.length_cons, newAt_len q]
theorem newAt_lt : ∀ {k : Nat} {rs rs' : List (List α)} {o : α} {l i : Nat}, newAt k rs o = some (l, i, rs') → l < rs.length
  | _, [], _, _, _, _, h => by simp [newAt] at h
  | 0, r :: rs, _, o, l, i, h => by
    simp only [newAt, Option.some.injEq, Prod.mk.injEq] at h
    obtain ⟨e, _, _⟩ := h
    rw [← e]; simp
  | k + 1, r :: rs, rs', o, l, i, h => by
    unfold newAt at h
    cases q : newAt k rs o with
    | none => simp only [q] at h; cases h
    | some t =>
      obtain ⟨l2, i2, r2⟩ := t
      simp only [q, Option.some.injEq, Prod.mk.injEq] at h
      obtain ⟨e, _, _⟩ := h
      have := newAt_lt q
      rw [← e, List.length_cons]
      omega
theorem newAt_at : ∀ {k : Nat} {rs rs' : List (List α)} {o : α} {l i : Nat}, newAt k rs o = some (l, i, rs') → ∀ l' i', look rs' l' i' = if l' = l ∧ i' = i then some o else look rs l' i'
  | _, [], _, _, _, _, h => by simp [newAt] at h
  | 0, r :: rs, _, o, l, i, h => by
    simp only [newAt, Option.some.injEq, Prod.mk.injEq] at h
    obtain ⟨e1, e2, e⟩ := h
    subst e1 e2 e
    intro l' i'
    rw [look, look]
    by_cases hl : l' = rs.length
    · rw [if_pos hl, if_pos hl]
      by_cases hi : i' = r.length
      · subst hi
        simp [hl]
      · rw [if_neg (by omega)]
        by_cases hlt : i' < r.length
        · rw [List.getElem?_append_left hlt]
        · rw [List.getElem?_eq_none (by simp; omega), List.getElem?_eq_none (by omega)]
    · rw [if_neg hl, if_neg hl, if_neg (by omega)]
  | k + 1, r :: rs, rs', o, l, i, h => by
    unfold newAt at h
    cases q : newAt k rs o with
    | none => simp only [q] at h; cases h
    | some t =>
      obtain ⟨l2, i2, r2⟩ := t
      simp only [q, Option.some.injEq, Prod.mk.injEq] at h
      obtain ⟨e1, e2, e⟩ := h
      subst e1 e2 e
      intro l' i'
      have hlt := newAt_lt q
      rw [look, look, newAt_len q]
      by_cases hl : l' = rs.length
      · rw [if_pos hl, if_pos hl, if_neg (by omega)]
      · rw [if_neg hl, if_neg hl]
        exact newAt_at q l' i'
theorem newAt_fresh : ∀ {k : Nat} {rs rs' : List (List α)} {o : α} {l i : Nat}, newAt k rs o = some (l, i, rs') → look rs l i = none
  | _, [], _, _, _, _, h => by simp [newAt] at h
  | 0, r :: rs, _, o, l, i, h => by
    simp only [newAt, Option.some.injEq, Prod.mk.injEq] at h
    obtain ⟨e1, e2, e⟩ := h
    subst e1 e2
    simp
  | k + 1, r :: rs, rs', o, l, i, h => by
    unfold newAt at h
    cases q : newAt k rs o with
    | none => simp only [q] at h; cases h
    | some t =>
      obtain ⟨l2, i2, r2⟩ := t
      simp only [q, Option.some.injEq, Prod.mk.injEq] at h
      obtain ⟨e1, e2, e⟩ := h
      subst e1 e2
      rw [look_low r _ (newAt_lt q)]
      exact newAt_fresh q
/-- two stores of one shape take it at the same place -/
theorem newAt_both {β : Type} : ∀ {k : Nat} {rs rs' : List (List α)} {qs : List (List β)} {o : α} {l i : Nat} (b : β), rs.map List.length = qs.map List.length → newAt k rs o = some (l, i, rs') → ∃ qs', newAt k qs b = some (l, i, qs') ∧ rs'.map List.length = qs'.map List.length
  | _, [], _, _, _, _, _, _, _, h => by simp [newAt] at h
  | _, _ :: _, _, [], _, _, _, _, e, _ => by simp at e
  | 0, r :: rs, _, q :: qs, o, l, i, b, e, h => by
    simp only [newAt, Option.some.injEq, Prod.mk.injEq] at h
    obtain ⟨e1, e2, e3⟩ := h
    subst e1 e2 e3
    simp only [List.map_cons, List.cons.injEq] at e
    have e2 : rs.length = qs.length := by have := congrArg List.length e.2; simpa using this
    refine ⟨(q ++ [b]) :: qs, ?_, by simp [e.1, e.2]⟩
    simp [newAt, e2, e.1]
  | k + 1, r :: rs, rs', q :: qs, o, l, i, b, e, h => by
    unfold newAt at h
    cases z : newAt k rs o with
    | none => simp only [z] at h; cases h
    | some t =>
      obtain ⟨l2, i2, r2⟩ := t
      simp only [z, Option.some.injEq, Prod.mk.injEq] at h
      obtain ⟨e1, e2, e3⟩ := h
      subst e1 e2 e3
      simp only [List.map_cons, List.cons.injEq] at e
      obtain ⟨qs', h1, h2⟩ := newAt_both b e.2 z
      refine ⟨q :: qs', ?_, by simp [e.1, h2]⟩
      simp [newAt, h1]
end
section
variable {K : PySem.W.Frag} {φ : Phi} {H : Hp} {S S' : Sto}
/-- it is laid -/
theorem RS.newed {k l i : Nat} {o : O} {p : Addr} {u : HO} (s : RS K φ H S) (hp : H p = none) (h : newAt k S o = some (l, i, S')) (hl : o.le l = true) (hr : ∀ φ', Le φ H φ' (upd H p u) → RO K φ' (upd H p u) o p) :
    ∃ φ', Le φ H φ' (upd H p u) ∧ RS K φ' (upd H p u) S' ∧ look φ'.r l i = some p := by
  obtain ⟨r', h1, h2⟩ := newAt_both p s.shape.symm h
  have ha := newAt_at h1
  have hb := newAt_at h
  have fr := s.fresh hp
  have le : Le φ H ⟨r', φ.p⟩ (upd H p u) := by
    refine ⟨newAt_len h1, fun l' i' a e => ?_, fun a w e aw => ⟨upd_some hp e, fun l' i' e' => ?_, aw.2⟩, fun _ e => e, fun a w _ e => upd_some hp e⟩
    · rw [show look (Phi.mk r' φ.p).r l' i' = look r' l' i' from rfl, ha]
      by_cases q : l' = l ∧ i' = i
      · rw [q.1, q.2, newAt_fresh h1] at e
        cases e
      · rw [if_neg q]; exact e
    · rw [show look (Phi.mk r' φ.p).r l' i' = look r' l' i' from rfl, ha] at e'
      by_cases q : l' = l ∧ i' = i
      · rw [if_pos q] at e'
        cases e'
        rw [hp] at e
        cases e
      · rw [if_neg q] at e'
        exact aw.1 _ _ e'
  refine ⟨⟨r', φ.p⟩, le, ⟨h2.symm, fun l' i' o' a e1 e2 => ?_, fun l' i' l2 i2 a e1 e2 => ?_, fun l' i' o' e => ?_, fun l' i' a e => ?_, fun a e => ?_, fun l' i' a e => ?_⟩, ?_⟩
  · rw [show look (Phi.mk r' φ.p).r l' i' = look r' l' i' from rfl, ha] at e2
    rw [hb] at e1
    by_cases q : l' = l ∧ i' = i
    · rw [if_pos q] at e1 e2
      cases e1
      cases e2
      exact hr _ le
    · rw [if_neg q] at e1 e2
      exact (s.obj l' i' o' a e1 e2).tr le.stay le.grow fun _ e => upd_some hp e
  · rw [show look (Phi.mk r' φ.p).r l' i' = look r' l' i' from rfl, ha] at e1
    rw [show look (Phi.mk r' φ.p).r l2 i2 = look r' l2 i2 from rfl, ha] at e2
    by_cases q : l' = l ∧ i' = i <;> by_cases q2 : l2 = l ∧ i2 = i
    · omega
    · rw [if_pos q] at e1
      rw [if_neg q2] at e2
      cases e1
      exact absurd e2 (fr.1 _ _)
    · rw [if_neg q] at e1
      rw [if_pos q2] at e2
      cases e2
      exact absurd e1 (fr.1 _ _)
    · rw [if_neg q] at e1
      rw [if_neg q2] at e2
      exact s.inj _ _ _ _ a e1 e2
  · rw [hb] at e
    by_cases q : l' = l ∧ i' = i
    · rw [if_pos q] at e
      cases e
      rw [q.1]; exact hl
    · rw [if_neg q] at e
      exact s.lev _ _ _ e
  · rw [show look (Phi.mk r' φ.p).r l' i' = look r' l' i' from rfl, ha] at e
    by_cases q : l' = l ∧ i' = i
    · rw [if_pos q] at e
      cases e
      rw [upd_same]; simp
    · rw [if_neg q] at e
      have := s.trk _ _ _ e
      cases z : H a with
      | none => exact absurd z this
      | some w => rw [upd_some hp z]; simp
  · have := s.ptrk a e
    cases z : H a with
    | none => exact absurd z this
    | some w => rw [upd_some hp z]; simp
  · rw [show look (Phi.mk r' φ.p).r l' i' = look r' l' i' from rfl, ha] at e
    by_cases q : l' = l ∧ i' = i
    · rw [if_pos q] at e
      cases e
      exact fr.2
    · rw [if_neg q] at e
      exact s.dis _ _ _ e
  · rw [show look (Phi.mk r' φ.p).r l i = look r' l i from rfl, ha, if_pos ⟨rfl, rfl⟩]
/-- an object is changed -/
theorem Le.put {l i : Nat} {a : Addr} {u : HO} (s : RS K φ H S) (ha : look φ.r l i = some a) : Le φ H φ (upd H a u) :=
  ⟨rfl, fun _ _ _ e => e, fun b w e aw => ⟨by rw [upd_ne]; exact e; intro z; rw [z] at aw; exact aw.1 _ _ ha, aw⟩, fun _ e => e, fun b w hb e => by rw [upd_ne]; exact e; intro z; rw [z] at hb; exact s.dis _ _ _ ha hb⟩
theorem RS.put {l i : Nat} {a : Addr} {u : HO} {o o' : O} (s : RS K φ H S) (ha : look φ.r l i = some a) (ho : look S l i = some o) (hl : o'.le l = true) (hr : RO K φ (upd H a u) o' a) : RS K φ (upd H a u) (put S l i o') := by
  have le : Le φ H φ (upd H a u) := Le.put s ha
  refine ⟨by rw [put_shape]; exact s.shape, fun l' i' o2 b e1 e2 => ?_, s.inj, fun l' i' o2 e => ?_, fun l' i' b e => ?_, fun b e => ?_, s.dis⟩
  · by_cases q : l' = l ∧ i' = i
    · rw [q.1, q.2, look_put_same o' ho] at e1
      rw [q.1, q.2, ha] at e2
      cases e1
      cases e2
      exact hr
    · rw [look_put_ne o' q] at e1
      have hb : b ≠ a := fun z => by
        rw [z] at e2
        exact q (s.inj _ _ _ _ a e2 ha)
      exact (s.obj _ _ _ _ e1 e2).tr le.stay le.grow fun _ e => by rw [upd_ne hb]; exact e
  · by_cases q : l' = l ∧ i' = i
    · rw [q.1, q.2, look_put_same o' ho] at e
      cases e
      rw [q.1]; exact hl
    · rw [look_put_ne o' q] at e
      exact s.lev _ _ _ e
  · by_cases hb : b = a
    · rw [hb, upd_same]; simp
    · rw [upd_ne hb]; exact s.trk _ _ _ e
  · by_cases hb : b = a
    · rw [hb, upd_same]; simp
    · rw [upd_ne hb]; exact s.ptrk _ e
end
/-- a new list that will be changed, k levels up -/
def cNew (k : Nat) (a : CA) : C := fun ρ S => (a ρ S).bind fun ds S => match newAt k S (.lst ds) with
  | some (l, i, S') => if D.les l ds = true then .ok (.ref l i) S' else .bad
  | none => .bad
theorem me_new {X : Cx} {W : WX} {es : List Expr} {ca : CA} {pos : Pos} (k : Nat) (ha : MA X W es ca) (hl : es.length ≤ 16000000 := by decide) : ME X W (.List es pos) (cNew k ca) := by
  refine ⟨(pe_lst ha.pa).imp fun σ H Q h => ?_⟩
  obtain ⟨ρ, φ, S, hE, hs, h⟩ := h
  refine ⟨ρ, φ, S, hE, hs, Ok.stepA ha h fun ds S1 φ1 H1 vs l1 l2 l s r z => ?_⟩
  refine ⟨line_ge (by omega), fun p hp => ?_⟩
  cases q : newAt k S1 (.lst ds) with
  | none => simp only [q] at z; exact z.elim
  | some t =>
    obtain ⟨lv, i, S'⟩ := t
    simp only [q] at z
    by_cases hle : D.les lv ds = true
    · simp only [hle, if_true] at z
      obtain ⟨φ', le, s', hq⟩ := s.newed (u := .lst vs) hp q hle fun φ' le => ⟨vs, upd_same, line_ge (by omega), r.mono le⟩
      exact z φ' _ _ le s' (.ref hq)
    · simp only [hle] at z
      exact z.elim

/-! ### a place of a sequence -/
def gIx : G2
  | .tup xs, .int i, S => match atI xs i with
    | some d => .ok d S
    | none => .bad
  | .lst xs, .int i, S => match atI xs i with
    | some d => .ok d S
    | none => .bad
  | .rol xs, .int i, S => match atI xs i with
    | some d => .ok d S
    | none => .bad
  | .str z, .int i, S => if z.length ≤ 16000000 then match atI z.cps.toList i with
    | some c => .ok (.str ⟨#[c]⟩) S
    | none => .bad
    else .bad
  | .ref l n, .int i, S => match look S l n with
    | some (.lst xs) => match atI xs i with
      | some d => .ok d S
      | none => .bad
    | _ => .bad
  | _, _, _ => .bad
theorem relL_at {K : PySem.W.Frag} {φ : Phi} {H : Hp} {ds : List D} {vs : List V} {i : Int} {d : D} (r : RelL K φ H ds vs) (h : atI ds i = some d) : ∃ v, atI vs i = some v ∧ Rel K φ H d v := by
  unfold atI at h ⊢
  rw [r.length] at h
  cases q : ixN vs.length i with
  | none => rw [q] at h; cases h
  | some j =>
    rw [q] at h
    exact r.get h
theorem me_ix {X : Cx} {W : WX} {pos : Pos} {a b : Expr} {ca cb : C} (ha : ME X W a ca) (hb : ME X W b cb) (hs : PlainIx b := by exact fun _ _ => rfl) : ME X W (.Subscript a b pos) (cB gIx ca cb) := by
  refine ⟨(pe_ix ix_seq ha.pe hb.pe hs).imp fun σ H Q h => bin_imp (ta := ca) (fun φ H S x y vx vy s rx ry z => ?_) h⟩
  cases ry <;> try (cases rx <;> exact z.elim)
  rename_i i
  cases rx <;> try exact z.elim
  · rename_i w
    unfold gIx at z
    by_cases hw : w.length ≤ 16000000
    · simp only [hw, if_true] at z
      cases q : atI w.cps.toList i with
      | none => simp only [q] at z; exact z.elim
      | some c =>
        simp only [q] at z
        exact .inr (.inr ⟨w, i, c, rfl, rfl, line_ge hw, q, z φ H _ (Le.refl _ _) s (.str _)⟩)
    · simp only [hw, if_false] at z
      exact z.elim
  · rename_i p vs ds zz f r
    unfold gIx at z
    cases q : atI ds i with
    | none => simp only [q] at z; exact z.elim
    | some d =>
      simp only [q] at z
      obtain ⟨v, h1, h2⟩ := relL_at r q
      exact .inr (.inl ⟨p, vs, i, v, rfl, rfl, f.sq, h1, z φ H _ (Le.refl _ _) s h2⟩)
  · rename_i p vs ds zz f w r
    unfold gIx at z
    cases q : atI ds i with
    | none => simp only [q] at z; exact z.elim
    | some d =>
      simp only [q] at z
      obtain ⟨v, h1, h2⟩ := relL_at r q
      exact .inl ⟨p, vs, i, v, rfl, rfl, SqL.of f, h1, z φ H _ (Le.refl _ _) s h2⟩
  · rename_i p vs ds zz f r
    unfold gIx at z
    cases q : atI ds i with
    | none => simp only [q] at z; exact z.elim
    | some d =>
      simp only [q] at z
      obtain ⟨v, h1, h2⟩ := relL_at r q
      exact .inl ⟨p, vs, i, v, rfl, rfl, f.sq, h1, z φ H _ (Le.refl _ _) s h2⟩
  · rename_i l n p e
    unfold gIx at z
    cases q : look S l n with
    | none => simp only [q] at z; exact z.elim
    | some o =>
      cases o with
      | dead => simp only [q] at z; exact z.elim
      | box => simp only [q] at z; exact z.elim
      | lst ds =>
        simp only [q] at z
        obtain ⟨vs, hv, _, r⟩ := s.obj l n _ p q e
        cases q2 : atI ds i with
        | none => simp only [q2] at z; exact z.elim
        | some d =>
          simp only [q2] at z
          obtain ⟨v, h1, h2⟩ := relL_at r q2
          exact .inl ⟨p, vs, i, v, rfl, rfl, SqL.of hv, h1, z φ H _ (Le.refl _ _) s h2⟩

/-! ### slices -/
abbrev CO := Ro → Sto → R (Option Int)
def coN : CO := fun _ S => .ok none S
def coS (c : C) : CO := fun ρ S => (c ρ S).bind fun d S => match d with
  | .int i => .ok (some i) S
  | _ => .bad
def cutL {α : Type} (xs : List α) (lo hi : Option Int) : List α := (xs.drop (HT.sIx xs.length 0 lo)).take (HT.sIx xs.length xs.length hi - HT.sIx xs.length 0 lo)
def gSl (x : D) (lo hi : Option Int) (S : Sto) : R D := match x with
  | .tup xs => .ok (.tup (cutL xs lo hi)) S
  | .lst xs => .ok (.lst (cutL xs lo hi)) S
  | .rol xs => .ok (.lst (cutL xs lo hi)) S
  | .str z => if z.length ≤ 16000000 then .ok (.str (cutS z lo hi)) S else .bad
  | .ref l n => match look S l n with
    | some (.lst xs) => .ok (.lst (cutL xs lo hi)) S
    | _ => .bad
  | _ => .bad
def cSl (a : C) (lo hi : CO) : C := fun ρ S => (a ρ S).bind fun x S => (lo ρ S).bind fun l S => (hi ρ S).bind fun h S => gSl x l h S
def rdO (X : Cx) (W : WX) (c : CO) : TO := fun σ H Q => ∃ ρ φ S, RE X.K φ H ρ σ ∧ RS X.K φ H S ∧ Ok X.K X.mg (fun _ _ (a b : Option Int) => a = b) φ H (fun cls d H' => W cls d σ H') Q (c ρ S)
structure MO (X : Cx) (W : WX) (e : Option Expr) (c : CO) : Prop where
  po : PO X e (rdO X W c)
theorem _root_.L2.PO.imp {X : Cx} {e : Option Expr} {t u : TO} (h : PO X e t) (k : ∀ σ H Q, u σ H Q → t σ H Q) : PO X e u := ⟨fun pins s σ H Q I z => h.run pins s σ H Q I (k σ H Q z)⟩
section
variable {X : Cx} {W : WX} {pos p2 : Pos} {a e : Expr} {lo hi : Option Expr} {ca ce : C} {cl ch : CO}
theorem mo_none : MO X W none coN := ⟨po_none.imp fun σ H Q h => by
  obtain ⟨ρ, φ, S, hE, hs, h⟩ := h
  exact h φ H none (Le.refl _ _) hs rfl⟩
theorem mo_some (he : ME X W e ce) : MO X W (some e) (coS ce) := ⟨(po_some he.pe).imp fun σ H Q h => by
  obtain ⟨ρ, φ, S, hE, hs, h⟩ := h
  refine ⟨ρ, φ, S, hE, hs, h.step fun d S1 φ1 H1 v q l s r z => ?_⟩
  cases r <;> try exact z.elim
  rename_i i
  exact ⟨i, rfl, z φ1 H1 _ (Le.refl _ _) s rfl⟩⟩
theorem relL_cut {K : PySem.W.Frag} {φ : Phi} {H : Hp} {ds : List D} {vs : List V} (r : RelL K φ H ds vs) (lo hi : Option Int) : RelL K φ H (cutL ds lo hi) (cutV vs lo hi) := by
  unfold cutL cutV
  rw [r.length]
  exact (r.drop _).take _
theorem cutV_all {vs : List V} {lo hi : Option Int} (h : HT.sIx vs.length 0 lo = 0 ∧ HT.sIx vs.length vs.length hi = vs.length) : cutV vs lo hi = vs := by
  unfold cutV
  rw [h.1, h.2]
  simp
theorem me_sl (ha : ME X W a ca) (hl : MO X W lo cl) (hh : MO X W hi ch) : ME X W (.Subscript a (.Slice lo hi none p2) pos) (cSl ca cl ch) := by
  refine ⟨(pe_slice ((sl_list (X := X)).or (sl_tupA.or sl_str)) ha.pe hl.po hh.po).imp fun σ H Q h => ?_⟩
  obtain ⟨ρ, φ, S, hE, hs, h⟩ := h
  refine ⟨ρ, φ, S, hE, hs, h.step fun x S1 φ1 H1 vx q l1 s1 rx0 za => ⟨ρ, φ1, S1, hE.mono l1, s1, za.step fun o1 S2 φ2 H2 o1' q2 l2 s2 e1 zb => ⟨ρ, φ2, S2, (hE.mono l1).mono l2, s2, zb.step fun o2 S3 φ3 H3 o2' q3 l3 s3 e2 z => ?_⟩⟩⟩
  cases e1
  cases e2
  have rx := (rx0.mono l2).mono l3
  clear rx0 za zb q q2 q3 h
  cases rx <;> try exact z.elim
  · rename_i w
    unfold gSl at z
    by_cases hw : w.length ≤ 16000000
    · simp only [hw, if_true] at z
      exact .inr (.inr ⟨w, rfl, line_ge hw, z φ3 H3 _ (Le.refl _ _) s3 (.str _)⟩)
    · simp only [hw, if_false] at z
      exact z.elim
  · rename_i p vs ds zz f r
    have rc := relL_cut r o1 o2
    refine .inr (.inl ⟨p, vs, rfl, f.sq, fun hw => ?_, fun hw p' hp' => ?_⟩)
    · rw [cutV_all hw] at rc
      exact z φ3 H3 _ (Le.refl _ _) s3 (.tup zz f rc)
    · exact z φ3 _ _ (Le.fresh hp') (s3.laid hp') (.tup (Nat.le_trans (cutV_length _ _ _) zz) (.inl ⟨.inl upd_same, s3.fresh hp'⟩) (rc.laid hp'))
  · rename_i p vs ds zz f w r
    have rc := relL_cut r o1 o2
    refine .inl ⟨p, vs, rfl, SqL.of f, fun p' hp' => ?_⟩
    exact z φ3 _ _ (Le.fresh hp') (s3.laid hp') (.lst (Nat.le_trans (cutV_length _ _ _) zz) upd_same (s3.fresh hp') (rc.laid hp'))
  · rename_i p vs ds zz f r
    have rc := relL_cut r o1 o2
    refine .inl ⟨p, vs, rfl, f.sq, fun p' hp' => ?_⟩
    exact z φ3 _ _ (Le.fresh hp') (s3.laid hp') (.lst (Nat.le_trans (cutV_length _ _ _) zz) upd_same (s3.fresh hp') (rc.laid hp'))
  · rename_i l n p e
    unfold gSl at z
    cases q : look S3 l n with
    | none => simp only [q] at z; exact z.elim
    | some o =>
      cases o with
      | dead => simp only [q] at z; exact z.elim
      | box => simp only [q] at z; exact z.elim
      | lst ds =>
        simp only [q] at z
        obtain ⟨vs, hv, zz, r⟩ := s3.obj l n _ p q e
        have rc := relL_cut r o1 o2
        refine .inl ⟨p, vs, rfl, SqL.of hv, fun p' hp' => ?_⟩
        exact z φ3 _ _ (Le.fresh hp') (s3.laid hp') (.lst (Nat.le_trans (cutV_length _ _ _) zz) upd_same (s3.fresh hp') (rc.laid hp'))
end

/-! ### o[i] = e, o.append(e) -/
def cSetI (o i e : C) : CS := fun ρ S => .of ρ (e ρ S) fun d S => .of ρ (o ρ S) fun x S => .of ρ (i ρ S) fun k S => match x, k with
  | .ref l n, .int j => match look S l n with
    | some (.lst xs) => match ixN xs.length j with
      | some m => if D.les l (xs.set m d) = true then .nx ρ (put S l n (.lst (xs.set m d))) else .bad
      | none => .bad
    | _ => .bad
  | _, _ => .bad
theorem ms_setI {X : Cx} {W : WX} {pos pos' : Pos} {o i e : Expr} {co ci ce : C} (he : ME X W e ce) (ho : ME X W o co) (hi : ME X W i ci)
    (ha : ∀ v, assign (.Subscript o i pos') X.env v = (do
      let ov ← holding [v] (eval o X.env)
      let iv ← holding [v, ov] (eval i X.env)
      standAt pos'
      holding [v, ov, iv] (setItem ov iv v)
      release [v, ov, iv] []) := by intro _; rfl)
    (hs : swapsWithSole [.Subscript o i pos'] e pos.line X.env = pure false := by rfl) (hw : swappedStores [.Subscript o i pos'] e X.env = pure none := by rfl)
    (h1 : (assignEach [.Subscript o i pos'] X.env).map (·.2) = [assign (.Subscript o i pos') X.env] := by rfl) : MS X W (.Assign [.Subscript o i pos'] e pos) (cSetI co ci ce) := by
  refine ⟨(ps_asg he.pe (pg_sub ho.pe hi.pe set_list ha) hs hw h1).imp fun D' σ H h => ?_⟩
  obtain ⟨ρ, φ, S, hE, hs, h⟩ := h
  refine ⟨ρ, φ, S, hE, hs, OkS.from hE h fun d S1 φ1 H1 v q l1 s1 rd0 za => ⟨ρ, φ1, S1, hE.mono l1, s1, OkS.from (hE.mono l1) za fun x S2 φ2 H2 vx q2 l2 s2 rx0 zb => ⟨ρ, φ2, S2, (hE.mono l1).mono l2, s2, OkS.from ((hE.mono l1).mono l2) zb fun k S3 φ3 H3 vk q3 l3 s3 rk z => ?_⟩⟩⟩
  have rx := rx0.mono l3
  have rd := (rd0.mono l2).mono l3
  clear rx0 rd0 za zb q q2 q3 h
  cases rx <;> try exact z.elim
  cases rk <;> try exact z.elim
  rename_i l n p e j
  cases q4 : look S3 l n with
  | none => simp only [q4] at z; exact z.elim
  | some ob =>
    cases ob with
    | dead => simp only [q4] at z; exact z.elim
    | box => simp only [q4] at z; exact z.elim
    | lst ds =>
      simp only [q4] at z
      obtain ⟨vs, hv, zz, r⟩ := s3.obj l n _ p q4 e
      cases q5 : ixN ds.length j with
      | none => simp only [q5] at z; exact z.elim
      | some m =>
        simp only [q5] at z
        by_cases hle : D.les l (ds.set m d) = true
        · simp only [hle, if_true] at z
          refine ⟨p, vs, j, m, rfl, rfl, hv, by rw [← r.length]; exact q5, ?_⟩
          refine z φ3 _ σ (Le.put s3 e) (s3.put e q4 hle ⟨_, upd_same, by simpa using zz, ?_⟩) ((((hE.mono l1).mono l2).mono l3).mono (Le.put s3 e))
          exact RelL.mono (Le.put s3 e) (r.set rd m)
        · simp only [hle] at z
          exact z.elim
def cApp (o e : C) : C := fun ρ S => (o ρ S).bind fun x S => match x with
  | .ref l n => match look S l n with
    | some (.lst _) => (e ρ S).bind fun d S => match look S l n with
      | some (.lst xs) => if xs.length < 16000000 ∧ D.les l (xs ++ [d]) = true then .ok .non (put S l n (.lst (xs ++ [d]))) else .bad
      | _ => .bad
    | _ => .bad
  | _ => .bad
theorem me_app {X : Cx} {W : WX} {pos apos : Pos} {o e : Expr} {co ce : C} (ho : ME X W o co) (he : ME X W e ce)
    (hbase : attributeBase o "append" X.env (eval o X.env) = eval o X.env := by rfl) (hline : (apos.endLine == pos.line) = true := by rfl)
    (hfew : ((backTo pos (starEach [e] X.env)).all (fun x => !x.1) && (backToKw pos (keywordEach [] X.env)).all (fun x => x.1.isSome)
      && decide ([e].length + ([] : List Keyword).length + (if ([] : List Keyword).isEmpty then 0 else 1) < 30)) = true := by rfl)
    (hs : starEach [e] X.env = (false, eval e X.env) :: starEach [] X.env := by rfl) (hplain : (backTo pos (starEach [] X.env)).any (·.1) = false := by rfl) :
    ME X W (.Call (.Attribute o "append" apos) [e] [] pos) (cApp co ce) := by
  have ma := ma_cons he ma_nil hs
  refine ⟨(pe_bm PySem.F.plainAttrs_list PySem.F.slot_list_append PySem.F.type_list_append mt_append ho.pe ma.pa hbase hfew hline hs hplain).imp fun σ H Q h => ?_⟩
  obtain ⟨ρ, φ, S, hE, hs, h⟩ := h
  refine ⟨ρ, φ, S, hE, hs, h.step fun x S1 φ1 H1 vx q l1 s1 rx z => ?_⟩
  cases rx <;> try exact z.elim
  rename_i l n p e0
  cases q0 : look S1 l n with
  | none => simp only [q0] at z; exact z.elim
  | some ob0 =>
    cases ob0 with
    | dead => simp only [q0] at z; exact z.elim
    | box => simp only [q0] at z; exact z.elim
    | lst ds0 =>
      simp only [q0] at z
      obtain ⟨vs0, hv0, _, _⟩ := s1.obj l n _ p q0 e0
      refine ⟨.inl ⟨rfl, vs0, SqL.of hv0⟩, ρ, φ1, S1, hE.mono l1, s1, ?_⟩
      have z2 : Ok X.K X.mg (Rel X.K) φ1 H1 (fun cls d H' => W cls d σ H') Q ((caCons ce caNil ρ S1).bind fun ds S => match ds with
        | [d] => (match look S l n with
          | some (.lst xs) => if xs.length < 16000000 ∧ D.les l (xs ++ [d]) = true then .ok .non (put S l n (.lst (xs ++ [d]))) else .bad
          | _ => .bad)
        | _ => .bad) := by
        revert z
        unfold caCons caNil
        cases ce ρ S1 <;> exact id
      refine z2.step fun ds S2 φ2 H2 vs q2 l2 s2 r z => ?_
      cases r with
      | nil => exact z.elim
      | cons r1 r =>
        cases r with
        | cons _ _ => exact z.elim
        | nil =>
          rename_i d v
          have e2 := l2.grow _ _ _ e0
          cases q4 : look S2 l n with
          | none => simp only [q4] at z; exact z.elim
          | some ob =>
            cases ob with
            | dead => simp only [q4] at z; exact z.elim
            | box => simp only [q4] at z; exact z.elim
            | lst ds =>
              simp only [q4] at z
              obtain ⟨vs, hv, zz, r⟩ := s2.obj l n _ p q4 e2
              by_cases hle : ds.length < 16000000 ∧ D.les l (ds ++ [d]) = true
              · simp only [hle, and_self, if_true] at z
                have hlen : vs.length < 16000000 := by rw [← r.length]; exact hle.1
                refine ⟨p, vs, v, rfl, rfl, hv, line_gt hlen, z φ2 _ _ (Le.put s2 e2) (s2.put e2 q4 hle.2 ⟨_, upd_same, ?_, ?_⟩) .non⟩
                · rw [List.length_append]
                  exact line_ge (by simp; omega)
                · exact RelL.mono (Le.put s2 e2) (r.append (.cons r1 .nil))
              · simp only [hle, if_false] at z
                exact z.elim

/-! ### built-ins by name -/
def KS (X : Cx) (f : Value) (g : List D → Sto → R D) : Prop :=
  ∃ r : List V → Hp → VK → Prop, CallR X f r ∧ ∀ (W : WX) (σ : L2.St) (φ : Phi) (H : Hp) (S : Sto) (ds : List D) (vs : List V) (Q : VK), RS X.K φ H S → RelL X.K φ H ds vs → Ok X.K X.mg (Rel X.K) φ H (fun cls d H' => W cls d σ H') Q (g ds S) → r vs H Q
def cCall (g : List D → Sto → R D) (a : CA) : C := fun ρ S => (a ρ S).bind g
section
variable {X : Cx} {W : WX} {pos p : Pos} {x : Str} {e : Expr} {es : List Expr} {ca : CA} {g : List D → Sto → R D} {id T : String}
theorem me_callB (hc : KS X (.builtin id) g) (hg : Gl X x) (hm : X.mg x = none) (hv : bootBuiltins x = some (.builtin id)) (ha : MA X W (e :: es) ca) (hn : x ≠ "__name__" := by decide) (hdb : (x == ("__debug__" : Str)) = false := by decide)
    (he : starEach (e :: es) X.env = (false, eval e X.env) :: starEach es X.env := by rfl) (hpl : (backTo pos (starEach es X.env)).any (·.1) = false := by rfl) : ME X W (.Call (.Name x p) (e :: es) [] pos) (cCall g ca) := by
  obtain ⟨r, hr, k⟩ := hc
  refine ⟨(pe_callB hr hg hm hv ha.pa hn hdb he hpl).imp fun σ H Q h => ?_⟩
  obtain ⟨ρ, φ, S, hE, hs, h⟩ := h
  exact ⟨ρ, φ, S, hE, hs, h.step fun ds S1 φ1 H1 vs q l s r z => k W σ φ1 H1 S1 ds vs Q s r z⟩
theorem me_callTy (hc : KS X (.type T) g) (hg : Gl X x) (hm : X.mg x = none) (hv : bootBuiltins x = some (.type T)) (ha : MA X W (e :: es) ca) (hn : x ≠ "__name__" := by decide) (hdb : (x == ("__debug__" : Str)) = false := by decide)
    (he : starEach (e :: es) X.env = (false, eval e X.env) :: starEach es X.env := by rfl) (hpl : (backTo pos (starEach es X.env)).any (·.1) = false := by rfl) : ME X W (.Call (.Name x p) (e :: es) [] pos) (cCall g ca) := by
  obtain ⟨r, hr, k⟩ := hc
  refine ⟨(pe_callTy hr hg hm hv ha.pa hn hdb he hpl).imp fun σ H Q h => ?_⟩
  obtain ⟨ρ, φ, S, hE, hs, h⟩ := h
  exact ⟨ρ, φ, S, hE, hs, h.step fun ds S1 φ1 H1 vs q l s r z => k W σ φ1 H1 S1 ds vs Q s r z⟩
/-- a built-in class as a value -/
theorem me_ty {n : String} (hg : Gl X x) (hm : X.mg x = none) (hv : bootBuiltins x = some (.type n)) (hn : x ≠ "__name__" := by decide) (hd : (x == ("__debug__" : Str)) = false := by decide) : ME X W (.Name x pos) (cK (.ty n)) :=
  me_c (pe_bltn (v := .ty n) hg hm hv rfl hn hd) fun _ _ => .ty n
end
section
variable {X : Cx}
theorem KS.or {f : Value} {g1 g2 g : List D → Sto → R D} (h1 : KS X f g1) (h2 : KS X f g2) (e : ∀ ds S, g ds S = g1 ds S ∨ g ds S = g2 ds S) : KS X f g := by
  obtain ⟨r1, a1, k1⟩ := h1
  obtain ⟨r2, a2, k2⟩ := h2
  refine ⟨_, a1.or a2, fun W σ φ H S ds vs Q s r z => ?_⟩
  rcases e ds S with e | e
  · rw [e] at z
    exact .inl (k1 W σ φ H S ds vs Q s r z)
  · rw [e] at z
    exact .inr (k2 W σ φ H S ds vs Q s r z)
theorem relL1 {K : PySem.W.Frag} {φ : Phi} {H : Hp} {ds : List D} {vs : List V} (r : RelL K φ H ds vs) {d : D} (e : ds = [d]) : ∃ v, vs = [v] ∧ Rel K φ H d v := by
  subst e
  cases r with
  | cons r1 r => cases r; exact ⟨_, rfl, r1⟩
theorem relL2 {K : PySem.W.Frag} {φ : Phi} {H : Hp} {ds : List D} {vs : List V} (r : RelL K φ H ds vs) {d e : D} (h : ds = [d, e]) : ∃ v w, vs = [v, w] ∧ Rel K φ H d v ∧ Rel K φ H e w := by
  subst h
  cases r with
  | cons r1 r =>
    cases r with
    | cons r2 r => cases r; exact ⟨_, _, rfl, r1, r2⟩
def gLen : List D → Sto → R D
  | [.tup xs], S => .ok (.int xs.length) S
  | [.lst xs], S => .ok (.int xs.length) S
  | [.rol xs], S => .ok (.int xs.length) S
  | [.str z], S => if z.length ≤ 16000000 then .ok (.int z.length) S else .bad
  | [.ref l n], S => match look S l n with
    | some (.lst xs) => .ok (.int xs.length) S
    | _ => .bad
  | _, _ => .bad
theorem ks_len : KS X (.builtin "len") gLen := by
  refine ⟨_, call_len, fun W σ φ H S ds vs Q s r z => ?_⟩
  unfold gLen at z
  split at z
  · obtain ⟨v, rfl, r1⟩ := relL1 r rfl
    cases r1 with
    | tup zz f rr => exact ⟨_, _, rfl, .inr ⟨_, f.sq, rr.length⟩, z φ H _ (Le.refl _ _) s (.int _)⟩
  · obtain ⟨v, rfl, r1⟩ := relL1 r rfl
    cases r1 with
    | lst zz f w rr => exact ⟨_, _, rfl, .inl ⟨_, SqL.of f, rr.length⟩, z φ H _ (Le.refl _ _) s (.int _)⟩
  · obtain ⟨v, rfl, r1⟩ := relL1 r rfl
    cases r1 with
    | rol zz f rr => exact ⟨_, _, rfl, .inl ⟨_, f.sq, rr.length⟩, z φ H _ (Le.refl _ _) s (.int _)⟩
  · rename_i w
    obtain ⟨v, rfl, r1⟩ := relL1 r rfl
    cases r1
    by_cases hw : w.length ≤ 16000000
    · simp only [hw, if_true] at z
      exact ⟨_, _, rfl, ⟨line_ge hw, rfl⟩, z φ H _ (Le.refl _ _) s (.int _)⟩
    · simp only [hw, if_false] at z
      exact z.elim
  · rename_i l n
    obtain ⟨v, rfl, r1⟩ := relL1 r rfl
    cases r1 with
    | ref e =>
      rename_i p
      cases q : look S l n with
      | none => simp only [q] at z; exact z.elim
      | some o =>
        cases o with
        | dead => simp only [q] at z; exact z.elim
        | box => simp only [q] at z; exact z.elim
        | lst xs =>
          simp only [q] at z
          obtain ⟨vs, hv, _, rr⟩ := s.obj l n _ p q e
          exact ⟨_, _, rfl, .inl ⟨_, SqL.of hv, rr.length⟩, z φ H _ (Le.refl _ _) s (.int _)⟩
  · exact z.elim
def gAbs : List D → Sto → R D
  | [.int i], S => .ok (.int (if i < 0 then -i else i)) S
  | _, _ => .bad
theorem ks_abs : KS X (.builtin "abs") gAbs := by
  refine ⟨_, call_abs, fun W σ φ H S ds vs Q s r z => ?_⟩
  unfold gAbs at z
  split at z
  · obtain ⟨v, rfl, r1⟩ := relL1 r rfl
    cases r1
    exact ⟨_, rfl, z φ H _ (Le.refl _ _) s (.int _)⟩
  · exact z.elim
def gInt : List D → Sto → R D
  | [.int i], S => .ok (.int i) S
  | [.bl b], S => .ok (.int (if b then 1 else 0)) S
  | _, _ => .bad
theorem ks_int : KS X (.type "int") gInt := by
  refine ⟨_, call_int1, fun W σ φ H S ds vs Q s r z => ?_⟩
  unfold gInt at z
  split at z
  · obtain ⟨v, rfl, r1⟩ := relL1 r rfl
    cases r1
    exact .inl ⟨_, rfl, z φ H _ (Le.refl _ _) s (.int _)⟩
  · obtain ⟨v, rfl, r1⟩ := relL1 r rfl
    cases r1
    exact .inr ⟨_, rfl, z φ H _ (Le.refl _ _) s (.int _)⟩
  · exact z.elim
def gStrI : List D → Sto → R D
  | [.int i], S => if i.natAbs.log2 < 1920 then .ok (.str (toString i)) S else .bad
  | _, _ => .bad
theorem ks_str : KS X (.type "str") gStrI := by
  refine ⟨_, call_str_int, fun W σ φ H S ds vs Q s r z => ?_⟩
  unfold gStrI at z
  split at z
  · rename_i i
    obtain ⟨v, rfl, r1⟩ := relL1 r rfl
    cases r1
    by_cases h : i.natAbs.log2 < 1920
    · simp only [h, if_true] at z
      exact ⟨_, rfl, h, z φ H _ (Le.refl _ _) s (.str _)⟩
    · simp only [h, if_false] at z
      exact z.elim
  · exact z.elim
/-- the ints, the truth values of a list -/
def toInts : List D → Option (List Int)
  | [] => some []
  | .int i :: ds => (toInts ds).map (i :: ·)
  | _ :: _ => none
def toBls : List D → Option (List Bool)
  | [] => some []
  | .bl i :: ds => (toBls ds).map (i :: ·)
  | _ :: _ => none
@[simp] theorem toInts_map : ∀ ns : List Int, toInts (ns.map D.int) = some ns
  | [] => rfl
  | n :: ns => by simp [toInts, toInts_map ns]
@[simp] theorem toBls_map : ∀ ns : List Bool, toBls (ns.map D.bl) = some ns
  | [] => rfl
  | n :: ns => by simp [toBls, toBls_map ns]
theorem toInts_eq : ∀ {ds : List D} {ns : List Int}, toInts ds = some ns → ds = ns.map D.int
  | [], ns, h => by simp [toInts] at h; subst h; rfl
  | d :: ds, ns, h => by
    cases d <;> try (simp [toInts] at h; done)
    rename_i i
    simp only [toInts, Option.map_eq_some_iff] at h
    obtain ⟨ms, h1, h2⟩ := h
    subst h2
    rw [toInts_eq h1]
    rfl
theorem toBls_eq : ∀ {ds : List D} {ns : List Bool}, toBls ds = some ns → ds = ns.map D.bl
  | [], ns, h => by simp [toBls] at h; subst h; rfl
  | d :: ds, ns, h => by
    cases d <;> try (simp [toBls] at h; done)
    rename_i i
    simp only [toBls, Option.map_eq_some_iff] at h
    obtain ⟨ms, h1, h2⟩ := h
    subst h2
    rw [toBls_eq h1]
    rfl
def gFold {α : Type} (f : List D → Option α) (g : α → D) : List D → Sto → R D
  | [.lst xs], S => match f xs with
    | some ns => .ok (g ns) S
    | none => .bad
  | [.rol xs], S => match f xs with
    | some ns => .ok (g ns) S
    | none => .bad
  | [.ref l n], S => match look S l n with
    | some (.lst xs) => match f xs with
      | some ns => .ok (g ns) S
      | none => .bad
    | _ => .bad
  | _, _ => .bad
theorem fold_of {α : Type} {f : List D → Option α} {g : α → D} {W : WX} {σ : L2.St} {φ : Phi} {H : Hp} {S : Sto} {ds : List D} {vs : List V} {Q : VK} (s : RS X.K φ H S) (r : RelL X.K φ H ds vs) (z : Ok X.K X.mg (Rel X.K) φ H (fun cls d H' => W cls d σ H') Q (gFold f g ds S)) :
    ∃ a ws xs ns, vs = [.ref a] ∧ SqL X.K H a ws ∧ RelL X.K φ H xs ws ∧ f xs = some ns ∧ Ok X.K X.mg (Rel X.K) φ H (fun cls d H' => W cls d σ H') Q (.ok (g ns) S) := by
  unfold gFold at z
  split at z
  · rename_i xs
    obtain ⟨v, rfl, r1⟩ := relL1 r rfl
    cases r1 with
    | lst zz h w rr =>
      cases q : f xs with
      | none => simp only [q] at z; exact z.elim
      | some ns => simp only [q] at z; exact ⟨_, _, xs, ns, rfl, SqL.of h, rr, q, z⟩
  · rename_i xs
    obtain ⟨v, rfl, r1⟩ := relL1 r rfl
    cases r1 with
    | rol zz h rr =>
      cases q : f xs with
      | none => simp only [q] at z; exact z.elim
      | some ns => simp only [q] at z; exact ⟨_, _, xs, ns, rfl, h.sq, rr, q, z⟩
  · rename_i l n
    obtain ⟨v, rfl, r1⟩ := relL1 r rfl
    cases r1 with
    | ref e =>
      rename_i p
      cases q : look S l n with
      | none => simp only [q] at z; exact z.elim
      | some o =>
        cases o with
        | dead => simp only [q] at z; exact z.elim
        | box => simp only [q] at z; exact z.elim
        | lst xs =>
          simp only [q] at z
          obtain ⟨ws, hv, _, rr⟩ := s.obj l n _ p q e
          cases q2 : f xs with
          | none => simp only [q2] at z; exact z.elim
          | some ns => simp only [q2] at z; exact ⟨_, _, xs, ns, rfl, SqL.of hv, rr, q2, z⟩
  · exact z.elim
def gSum := gFold toInts fun ns => .int ns.sum
def gAll := gFold toBls fun ns => .bl (ns.all id)
def gAny := gFold toBls fun ns => .bl (ns.any id)
theorem ks_sum (hc : X.calm = true) : KS X (.builtin "sum") gSum := by
  refine ⟨_, cr_sum hc, fun W σ φ H S ds vs Q s r z => ?_⟩
  obtain ⟨a, ws, xs, ns, rfl, h1, h2, h3, z⟩ := fold_of s r z
  rw [toInts_eq h3] at h2
  rw [RelL.ints_inv h2] at h1
  exact ⟨a, ns, rfl, h1, z φ H _ (Le.refl _ _) s (.int _)⟩
theorem ks_all (hc : X.calm = true) : KS X (.builtin "all") gAll := by
  refine ⟨_, cr_all hc, fun W σ φ H S ds vs Q s r z => ?_⟩
  obtain ⟨a, ws, xs, ns, rfl, h1, h2, h3, z⟩ := fold_of s r z
  rw [toBls_eq h3] at h2
  rw [RelL.bls_inv h2] at h1
  exact ⟨a, ns, rfl, h1, z φ H _ (Le.refl _ _) s (.bl _)⟩
theorem ks_any (hc : X.calm = true) : KS X (.builtin "any") gAny := by
  refine ⟨_, cr_any hc, fun W σ φ H S ds vs Q s r z => ?_⟩
  obtain ⟨a, ws, xs, ns, rfl, h1, h2, h3, z⟩ := fold_of s r z
  rw [toBls_eq h3] at h2
  rw [RelL.bls_inv h2] at h1
  exact ⟨a, ns, rfl, h1, z φ H _ (Le.refl _ _) s (.bl _)⟩
def gTuple : List D → Sto → R D
  | [.tup xs], S => .ok (.tup xs) S
  | [.lst xs], S => .ok (.tup xs) S
  | [.rol xs], S => .ok (.tup xs) S
  | [.ref l n], S => match look S l n with
    | some (.lst xs) => .ok (.tup xs) S
    | _ => .bad
  | _, _ => .bad
theorem ks_tuple : KS X (.type "tuple") gTuple := by
  refine ⟨_, call_tuple_of, fun W σ φ H S ds vs Q s r z => ?_⟩
  unfold gTuple at z
  split at z
  · obtain ⟨v, rfl, r1⟩ := relL1 r rfl
    cases r1 with
    | tup zz f rr => exact ⟨_, _, rfl, .inr ⟨f.sq, z φ H _ (Le.refl _ _) s (.tup zz f rr)⟩⟩
  · obtain ⟨v, rfl, r1⟩ := relL1 r rfl
    cases r1 with
    | lst zz f w rr => exact ⟨_, _, rfl, .inl ⟨SqL.of f, fun p hp => z φ _ _ (Le.fresh hp) (s.laid hp) (.tup zz (.inl ⟨.inl upd_same, s.fresh hp⟩) (rr.laid hp))⟩⟩
  · obtain ⟨v, rfl, r1⟩ := relL1 r rfl
    cases r1 with
    | rol zz f rr => exact ⟨_, _, rfl, .inl ⟨f.sq, fun p hp => z φ _ _ (Le.fresh hp) (s.laid hp) (.tup zz (.inl ⟨.inl upd_same, s.fresh hp⟩) (rr.laid hp))⟩⟩
  · rename_i l n
    obtain ⟨v, rfl, r1⟩ := relL1 r rfl
    cases r1 with
    | ref e =>
      rename_i p0
      cases q : look S l n with
      | none => simp only [q] at z; exact z.elim
      | some o =>
        cases o with
        | dead => simp only [q] at z; exact z.elim
        | box => simp only [q] at z; exact z.elim
        | lst xs =>
          simp only [q] at z
          obtain ⟨vs, hv, zz, rr⟩ := s.obj l n _ p0 q e
          exact ⟨_, _, rfl, .inl ⟨SqL.of hv, fun p hp => z φ _ _ (Le.fresh hp) (s.laid hp) (.tup zz (.inl ⟨.inl upd_same, s.fresh hp⟩) (rr.laid hp))⟩⟩
  · exact z.elim
def gList : List D → Sto → R D
  | [.tup xs], S => .ok (.lst xs) S
  | [.lst xs], S => .ok (.lst xs) S
  | [.rol xs], S => .ok (.lst xs) S
  | [.ref l n], S => match look S l n with
    | some (.lst xs) => .ok (.lst xs) S
    | _ => .bad
  | _, _ => .bad
theorem ks_list : KS X (.type "list") gList := by
  refine ⟨_, call_list_of, fun W σ φ H S ds vs Q s r z => ?_⟩
  unfold gList at z
  split at z
  · obtain ⟨v, rfl, r1⟩ := relL1 r rfl
    cases r1 with
    | tup zz f rr => exact ⟨_, _, rfl, .inr f.sq, fun p hp => z φ _ _ (Le.fresh hp) (s.laid hp) (.lst zz upd_same (s.fresh hp) (rr.laid hp))⟩
  · obtain ⟨v, rfl, r1⟩ := relL1 r rfl
    cases r1 with
    | lst zz f w rr => exact ⟨_, _, rfl, .inl (SqL.of f), fun p hp => z φ _ _ (Le.fresh hp) (s.laid hp) (.lst zz upd_same (s.fresh hp) (rr.laid hp))⟩
  · obtain ⟨v, rfl, r1⟩ := relL1 r rfl
    cases r1 with
    | rol zz f rr => exact ⟨_, _, rfl, .inl f.sq, fun p hp => z φ _ _ (Le.fresh hp) (s.laid hp) (.lst zz upd_same (s.fresh hp) (rr.laid hp))⟩
  · rename_i l n
    obtain ⟨v, rfl, r1⟩ := relL1 r rfl
    cases r1 with
    | ref e =>
      rename_i p0
      cases q : look S l n with
      | none => simp only [q] at z; exact z.elim
      | some o =>
        cases o with
        | dead => simp only [q] at z; exact z.elim
        | box => simp only [q] at z; exact z.elim
        | lst xs =>
          simp only [q] at z
          obtain ⟨vs, hv, zz, rr⟩ := s.obj l n _ p0 q e
          exact ⟨_, _, rfl, .inl (SqL.of hv), fun p hp => z φ _ _ (Le.fresh hp) (s.laid hp) (.lst zz upd_same (s.fresh hp) (rr.laid hp))⟩
  · exact z.elim
/-- the same, a list that will be changed -/
def gListN (k : Nat) : List D → Sto → R D := fun ds S => (gList ds S).bind fun d S => match d with
  | .lst xs => match newAt k S (.lst xs) with
    | some (l, i, S') => if D.les l xs = true then .ok (.ref l i) S' else .bad
    | none => .bad
  | _ => .bad
theorem newN {K : PySem.W.Frag} {mg : Str → Option Value} {φ : Phi} {H : Hp} {S : Sto} {xs : List D} {vs : List V} {k : Nat} {E : Value → Option Addr → Hp → Prop} {Q : VK} (s : RS K φ H S) (zz : vs.length ≤ sizeLine) (rr : RelL K φ H xs vs)
    (z : Ok K mg (Rel K) φ H E Q (match newAt k S (.lst xs) with
    | some (l, i, S') => if D.les l xs = true then .ok (.ref l i) S' else .bad
    | none => .bad)) : ∀ p, H p = none → Q (.ref p) (upd H p (.lst vs)) := by
  intro p hp
  cases q : newAt k S (.lst xs) with
  | none => simp only [q] at z; exact z.elim
  | some t =>
    obtain ⟨l, i, S'⟩ := t
    simp only [q] at z
    by_cases hle : D.les l xs = true
    · simp only [hle, if_true] at z
      obtain ⟨φ', le, s', hq⟩ := s.newed (u := .lst vs) hp q hle fun φ' le => ⟨vs, upd_same, zz, rr.mono le⟩
      exact z φ' _ _ le s' (.ref hq)
    · simp only [hle] at z
      exact z.elim
theorem ks_listN (k : Nat) : KS X (.type "list") (gListN k) := by
  refine ⟨_, call_list_of, fun W σ φ H S ds vs Q s r z => ?_⟩
  unfold gListN gList at z
  split at z
  · obtain ⟨v, rfl, r1⟩ := relL1 r rfl
    cases r1 with
    | tup zz f rr => exact ⟨_, _, rfl, .inr f.sq, newN s zz rr z⟩
  · obtain ⟨v, rfl, r1⟩ := relL1 r rfl
    cases r1 with
    | lst zz f w rr => exact ⟨_, _, rfl, .inl (SqL.of f), newN s zz rr z⟩
  · obtain ⟨v, rfl, r1⟩ := relL1 r rfl
    cases r1 with
    | rol zz f rr => exact ⟨_, _, rfl, .inl f.sq, newN s zz rr z⟩
  · rename_i l n
    obtain ⟨v, rfl, r1⟩ := relL1 r rfl
    cases r1 with
    | ref e =>
      rename_i p0
      cases q : look S l n with
      | none => simp only [q] at z; exact z.elim
      | some o =>
        cases o with
        | dead => simp only [q] at z; exact z.elim
        | box => simp only [q] at z; exact z.elim
        | lst xs =>
          simp only [q] at z
          obtain ⟨vs, hv, zz, rr⟩ := s.obj l n _ p0 q e
          exact ⟨_, _, rfl, .inl (SqL.of hv), newN s zz rr z⟩
  · exact z.elim
/-! ### isinstance with a built-in class -/
def D.tyName : D → Sto → String
  | .non, _ => "NoneType"
  | .bl _, _ => "bool"
  | .int _, _ => "int"
  | .str _, _ => "str"
  | .ty _, _ => "type"
  | .tup _, _ => "tuple"
  | .lst _, _ => "list"
  | .rol _, _ => "list"
  | .box (.dK _) _, _ => "dict"
  | .box _ _, _ => ""
  | .ref l n, S => match look S l n with
    | some (.lst _) => "list"
    | some (.box (.dK _) _) => "dict"
    | _ => ""
def gIsi : List D → Sto → R D
  | [x, .ty n], S => if x.tyName S = "type" ∨ x.tyName S = "" then .bad else match kitB (x.tyName S) n with
    | some b => .ok (.bl b) S
    | none => .bad
  | _, _ => .bad
theorem tyX_of {φ : Phi} {H : Hp} {S : Sto} {d : D} {v : V} (s : RS X.K φ H S) (r : Rel X.K φ H d v) (h : ¬ (d.tyName S = "type" ∨ d.tyName S = "")) : TyX X.K H v (.type (d.tyName S)) := by
  cases r with
  | non => exact .base .non
  | bl b => exact .base (.bl b)
  | int i => exact .base (.int i)
  | str x => exact .base (.str x)
  | ty n => exact absurd (.inl rfl) h
  | tup zz f rr =>
    rcases f with ⟨f | ⟨o, f⟩, _⟩ | f
    · exact .base (.tup f)
    · exact .fTuple f
    · rcases f with (f | ⟨_, f⟩) | ⟨o, its, n, h1, h2, _⟩
      · cases f
      · cases f
      · exact .kTuple h1 h2
  | lst zz f w rr => exact .base (.lst f)
  | rol zz f rr =>
    rcases f with ⟨f | ⟨o, f⟩, _⟩ | f
    · exact .base (.lst f)
    · exact .base (.frz f)
    · rcases f with (f | ⟨_, f⟩) | ⟨o, its, n, h1, h2, _⟩
      · cases f
      · cases f
      · exact .kList h1 h2
  | @box a vs ds b at_ n w rr =>
    cases b with
    | dK ks => exact .base (.dK at_.2)
    | dT ks => exact absurd (.inr rfl) h
    | ins c fs => exact absurd (.inr rfl) h
  | ref e =>
    rename_i l n p
    unfold D.tyName at h ⊢
    cases q : look S l n with
    | none => simp [q] at h
    | some o =>
      cases o with
      | dead => simp [q] at h
      | box b xs =>
        cases b with
        | dK ks =>
          obtain ⟨vs, hv, _⟩ := s.obj l n _ p q e
          simp only [q]
          exact .base (.dK hv.2)
        | dT ks => simp [q] at h
        | ins c fs => simp [q] at h
      | lst xs =>
        obtain ⟨vs, hv, _, _⟩ := s.obj l n _ p q e
        simp only [q]
        exact .base (.lst hv)
theorem ks_isi : KS X (.builtin "isinstance") gIsi := by
  refine ⟨_, call_isi, fun W σ φ H S ds vs Q s r z => ?_⟩
  unfold gIsi at z
  split at z
  · rename_i x n
    obtain ⟨v, w, rfl, r1, r2⟩ := relL2 r rfl
    cases r2
    by_cases h : x.tyName S = "type" ∨ x.tyName S = ""
    · simp only [h, if_true] at z; exact z.elim
    · simp only [h, if_false] at z
      cases q : kitB (x.tyName S) n with
      | none => simp only [q] at z; exact z.elim
      | some b =>
        simp only [q] at z
        exact ⟨v, .ty n, _, _, b, rfl, .ty n, tyX_of s r1 h, kit_ty q, z φ H _ (Le.refl _ _) s (.bl b)⟩
  · exact z.elim
end
end MP

/-! MP: comprehensions, calls, defs, the law's end. -/
namespace MP
open PySem PySem.Spec PyProof.Rows L2

/-! ### comprehensions -/
def R.calm {α : Type} : R α → R α
  | .err _ _ => .bad
  | r => r
@[simp] theorem R.calm_ok {α : Type} (a : α) (S : Sto) : (R.ok a S).calm = .ok a S := (rfl)
@[simp] theorem R.calm_bad {α : Type} : (R.bad : R α).calm = .bad := (rfl)
def wipeR (ρ : Ro) : List Nat → Ro
  | [] => ρ
  | v :: vs => (wipeR ρ vs).set v none
theorem RE.wipe {K : PySem.W.Frag} {φ : Phi} {H : Hp} {ρ : Ro} {σ : L2.St} (h : RE K φ H ρ σ) : ∀ vs : List Nat, RE K φ H (wipeR ρ vs) (L2.wipe σ vs)
  | [] => h
  | v :: vs => by
    have ih := RE.wipe h vs
    show RE K φ H ((wipeR ρ vs).set v none) ((L2.wipe σ vs).set v none)
    refine ⟨by simpa using ih.1, fun j d q => ?_⟩
    by_cases e : v = j
    · subst e
      have hl : v < (wipeR ρ vs).length := by
        have := (List.getElem?_eq_some_iff.mp q).1
        simpa using this
      rw [List.getElem?_set_self hl] at q
      cases q
    · rw [List.getElem?_set_ne e] at q
      rw [List.getElem?_set_ne e]
      exact ih.2 j d q
def lcL (t : Tg) (q : CT) (e : C) (ρ : Ro) : List D → Sto → R (List D)
  | [], S => .ok [] S
  | d :: ds, S => match t d ρ with
    | some ρ1 => (q ρ1 S).calm.bind fun k S1 => if k = true then (e ρ1 S1).calm.bind fun y S2 => (lcL t q e ρ ds S2).bind fun ys S3 => .ok (y :: ys) S3 else lcL t q e ρ ds S1
    | none => .bad
def ctYes : CT := fun _ S => .ok true S
/-- [e for t in iter if q], a list that isn't changed any more -/
def cLc (ci : CI) (t : Tg) (q : CT) (e : C) (vs : List Nat) : C := fun ρ S => (ci ρ S).bind fun ds S => if ds.length ≤ 16000000 then (lcL t q e (wipeR ρ vs) ds S).bind fun ys S => .ok (.lst ys) S else .bad
structure MTs (X : Cx) (W : WX) (es : List Expr) (c : CT) : Prop where
  pt : PTs X es (rdT X W c)
theorem _root_.L2.PTs.imp {X : Cx} {es : List Expr} {t u : TT} (h : PTs X es t) (k : ∀ σ H Q, u σ H Q → t σ H Q) : PTs X es u := ⟨fun pins s σ H Q I z => h.run pins s σ H Q I (k σ H Q z)⟩
theorem mts_nil {X : Cx} {W : WX} : MTs X W [] ctYes := ⟨pts_nil.imp fun σ H Q h => by
  obtain ⟨ρ, φ, S, hE, hs, h⟩ := h
  exact h φ H true (Le.refl _ _) hs rfl⟩
theorem mts_one {X : Cx} {W : WX} {e : Expr} {c : CT} (h : MT X W e c) : MTs X W [e] c := ⟨pts_one h.pt⟩
/-- nothing is let out -/
abbrev W0 : WX := fun _ _ _ _ => False
section
variable {K : PySem.W.Frag} {φ : Phi} {H : Hp} {S : Sto} {p : Addr}
/-- a private list begins -/
theorem Le.prive (hp : H p = none) (u : HO) : Le φ H ⟨φ.r, p :: φ.p⟩ (upd H p u) :=
  ⟨rfl, fun _ _ _ e => e, fun a w e aw => ⟨upd_some hp e, aw.1, fun z => by
    rcases List.mem_cons.mp z with z | z
    · rw [z, hp] at e; cases e
    · exact aw.2 z⟩, fun _ e => List.mem_cons_of_mem _ e, fun a w _ e => upd_some hp e⟩
theorem RS.prive (s : RS K φ H S) (hp : H p = none) (u : HO) : RS K ⟨φ.r, p :: φ.p⟩ (upd H p u) S := by
  have le : Le φ H ⟨φ.r, p :: φ.p⟩ (upd H p u) := Le.prive hp u
  refine ⟨s.shape, fun l i o a e1 e2 => ?_, s.inj, s.lev, fun l i a e => ?_, fun a e => ?_, fun l i a e z => ?_⟩
  · exact (s.obj l i o a e1 e2).tr le.stay le.grow fun _ e => upd_some hp e
  · have := s.trk _ _ _ e
    cases z : H a with
    | none => exact absurd z this
    | some w => rw [upd_some hp z]; simp
  · rcases List.mem_cons.mp e with e | e
    · rw [e, upd_same]; simp
    · have := s.ptrk a e
      cases z : H a with
      | none => exact absurd z this
      | some w => rw [upd_some hp z]; simp
  · rcases List.mem_cons.mp z with z | z
    · rw [z] at e
      exact (s.fresh hp).1 _ _ e
    · exact s.dis _ _ _ e z
/-- a private list is changed -/
theorem Le.priv (s : RS K φ H S) (hp : p ∈ φ.p) (u : HO) (φ0 : Phi) (H0 : Hp) (h0 : H0 p = none) (e : Le φ0 H0 φ H) : Le φ0 H0 φ (upd H p u) :=
  ⟨e.dep, e.grow, fun a w q aw => ⟨by rw [upd_ne (ne_of_none q h0)]; exact (e.stay a w q aw).1, (e.stay a w q aw).2⟩, e.prv, fun a w q z => by rw [upd_ne (ne_of_none z h0)]; exact e.pst a w q z⟩
theorem stays_priv (u : HO) (hp : p ∈ φ.p) : Stays φ H φ (upd H p u) := fun a o e w => ⟨by rw [upd_ne (fun z => by rw [z] at w; exact w.2 hp)]; exact e, w⟩
theorem Rel.priv (u : HO) (hp : p ∈ φ.p) {d : D} {v : V} (h : Rel K φ H d v) : Rel K φ (upd H p u) d v := h.tr (stays_priv u hp) fun _ _ _ e => e
theorem RelL.priv (u : HO) (hp : p ∈ φ.p) {ds : List D} {vs : List V} (h : RelL K φ H ds vs) : RelL K φ (upd H p u) ds vs := h.tr (stays_priv u hp) fun _ _ _ e => e
theorem RS.priv (s : RS K φ H S) (hp : p ∈ φ.p) (u : HO) : RS K φ (upd H p u) S := by
  refine ⟨s.shape, fun l i o a e1 e2 => ?_, s.inj, s.lev, fun l i a e => ?_, fun a e => ?_, s.dis⟩
  · have na : a ≠ p := fun z => by rw [z] at e2; exact s.dis _ _ _ e2 hp
    exact (s.obj l i o a e1 e2).tr (stays_priv u hp) (fun _ _ _ e => e) fun _ e => by rw [upd_ne na]; exact e
  · have na : a ≠ p := fun z => by rw [z] at e; exact s.dis _ _ _ e hp
    rw [upd_ne na]
    exact s.trk _ _ _ e
  · by_cases q : a = p
    · rw [q, upd_same]; simp
    · rw [upd_ne q]; exact s.ptrk _ e
theorem RE.priv {ρ : Ro} {σ : L2.St} (h : RE K φ H ρ σ) (hp : p ∈ φ.p) (u : HO) : RE K φ (upd H p u) ρ σ :=
  ⟨h.1, fun i d q => let ⟨v, a, b⟩ := h.2 i d q; ⟨v, a, b.priv u hp⟩⟩
/-- it is private no more -/
def Phi.out (φ : Phi) (p : Addr) : Phi := ⟨φ.r, φ.p.filter (· ≠ p)⟩
theorem Away.out {a : Addr} (h : Away φ a) : Away (φ.out p) a := ⟨h.1, fun z => h.2 (List.mem_filter.mp z).1⟩
theorem stays_out : Stays φ H (φ.out p) H := fun a o e w => ⟨e, w.out⟩
theorem Rel.out {d : D} {v : V} (h : Rel K φ H d v) : Rel K (φ.out p) H d v := h.tr stays_out fun _ _ _ e => e
theorem RelL.out {ds : List D} {vs : List V} (h : RelL K φ H ds vs) : RelL K (φ.out p) H ds vs := h.tr stays_out fun _ _ _ e => e
theorem RS.out (s : RS K φ H S) : RS K (φ.out p) H S := by
  refine ⟨s.shape, fun l i o a e1 e2 => ?_, s.inj, s.lev, s.trk, fun a e => s.ptrk a (List.mem_filter.mp e).1, fun l i a e z => s.dis l i a e (List.mem_filter.mp z).1⟩
  exact (s.obj l i o a e1 e2).tr stays_out (fun _ _ _ e => e) fun _ e => e
theorem Le.out {φ0 : Phi} {H0 : Hp} (s0 : RS K φ0 H0 S) (h0 : H0 p = none) (e : Le φ0 H0 φ H) : Le φ0 H0 (φ.out p) H :=
  ⟨e.dep, e.grow, fun a w q aw => ⟨(e.stay a w q aw).1, (e.stay a w q aw).2.out⟩, fun a q => List.mem_filter.mpr ⟨e.prv a q, by
    have := s0.ptrk a q
    simp only [ne_eq, decide_not, Bool.not_eq_eq_eq_not, Bool.not_true, decide_eq_false_iff_not]
    intro z
    rw [z] at this
    exact this h0⟩, e.pst⟩
end
theorem lc_imp {X : Cx} {W : WX} {B : Cx → Prop} {t : Tg} {sl : List Nat} {g : TG} {q : CT} {e : C} {ci : CI} {vs : List Nat} (gs : GS X.K g t sl) (hsl : ∀ i ∈ sl, i ∈ vs) {tt : TT} {te : TE}
    (htt : ∀ σ H Q, (∃ ρ φ S, RE X.K φ H ρ σ ∧ RS X.K φ H S ∧ Ok X.K X.mg eqB φ H (fun _ _ _ => False) Q (q ρ S)) → tt σ H Q)
    (hte : ∀ σ H Q, (∃ ρ φ S, RE X.K φ H ρ σ ∧ RS X.K φ H S ∧ Ok X.K X.mg (Rel X.K) φ H (fun _ _ _ => False) Q (e ρ S)) → te σ H Q)
    {σ : L2.St} {H : Hp} {Q : VK} (h : rdE X W (cLc ci t q e vs) σ H Q) : tLc (rdI X W ci) g tt te vs σ H Q := by
  obtain ⟨ρ, φ, S, hE, hs, h⟩ := h
  refine ⟨ρ, φ, S, hE, hs, h.step fun ds S1 φ1 H1 J qq l s ir z => ?_⟩
  intro P hP
  by_cases hlen : ds.length ≤ 16000000
  case neg =>
    simp only [hlen, if_false] at z
    exact z.elim
  simp only [hlen, if_true] at z
  have hE1 := hE.mono l
  have leP : Le φ1 H1 ⟨φ1.r, P :: φ1.p⟩ (upd H1 P (.lst [])) := Le.prive hP _
  refine ⟨fun i m H' => i + m = ds.length ∧ ∃ φ' S' ys ws, Le φ1 H1 φ' H' ∧ P ∈ φ'.p ∧ RE X.K φ' H' (wipeR ρ vs) (L2.wipe σ vs) ∧ RS X.K φ' H' S' ∧ H' P = some (.lst ws) ∧ RelL X.K φ' H' ys ws ∧ ws.length ≤ i ∧
      Ok X.K X.mg (Rel X.K) φ1 H1 (fun cls d H' => W cls d σ H') Q ((lcL t q e (wipeR ρ vs) (ds.drop i) S').bind fun zs S => .ok (.lst (ys ++ zs)) S),
    ⟨ds.length, by omega, _, S1, [], [], leP, List.mem_cons_self, (hE1.mono leP).wipe vs, s.prive hP _, upd_same, .nil, by simp, z⟩, ?_⟩
  rintro i m H' ⟨em, φ', S', ys, ws, l', mp, hE', s', hP', rr, hwl, z⟩
  by_cases hi : i < ds.length
  · have hd : ds.drop i = ds[i] :: ds.drop (i + 1) := List.drop_eq_getElem_cons hi
    rw [hd] at z
    unfold lcL at z
    cases qt : t ds[i] (wipeR ρ vs) with
    | none => simp only [qt] at z; exact z.elim
    | some ρ1 =>
      simp only [qt] at z
      refine .inr ⟨ir.go φ' H' l' i hi, fun H4 => ∃ φ' S' ys ws, Le φ1 H1 φ' H4 ∧ P ∈ φ'.p ∧ RE X.K φ' H4 (wipeR ρ vs) (L2.wipe σ vs) ∧ RS X.K φ' H4 S' ∧ H4 P = some (.lst ws) ∧ RelL X.K φ' H4 ys ws ∧ ws.length ≤ i + 1 ∧
        Ok X.K X.mg (Rel X.K) φ1 H1 (fun cls d H' => W cls d σ H') Q ((lcL t q e (wipeR ρ vs) (ds.drop (i + 1)) S').bind fun zs S => .ok (.lst (ys ++ zs)) S), fun H4 n => ⟨m - 1, by omega, by omega, n⟩, fun x H4 y => ?_⟩
      obtain ⟨l4, s4, rx⟩ := ir.yld φ' H' S' l' s' i ds[i] x H4 (by simp [hi]) y
      refine gs.go φ' H4 _ x (wipeR ρ vs) ρ1 (L2.wipe σ vs) _ rx (hE'.mono l4) qt fun σ1 re1 only => ⟨by rw [only vs hsl, wipe_idem], htt _ _ _ ⟨ρ1, φ', S', re1, s4, ?_⟩⟩
      have hP4 : H4 P = some (.lst ws) := l4.pst P _ mp hP'
      have rr4 := RelL.mono l4 rr
      cases q1 : q ρ1 S' with
      | bad => rw [q1] at z; exact z.elim
      | err x S2 => rw [q1] at z; exact z.elim
      | ok k S2 =>
        simp only [q1, R.calm_ok, R.bind_ok] at z
        intro φ5 H5 k' l5 s5 ek
        cases ek
        have mp5 := l5.prv P mp
        have hP5 : H5 P = some (.lst ws) := l5.pst P _ mp hP4
        have lt5 : Le φ1 H1 φ5 H5 := (l'.trans l4).trans l5
        cases k with
        | false =>
          simp only [Bool.false_eq_true, if_false] at z ⊢
          exact ⟨φ5, S2, ys, ws, lt5, mp5, ((hE'.mono l4).mono l5), s5, hP5, RelL.mono l5 rr4, by omega, z⟩
        | true =>
          simp only [if_true] at z ⊢
          refine hte _ _ _ ⟨ρ1, φ5, S2, re1.mono l5, s5, ?_⟩
          cases q2 : e ρ1 S2 with
          | bad => rw [q2] at z; exact z.elim
          | err x S3 => rw [q2] at z; exact z.elim
          | ok yv S3 =>
            simp only [q2, R.calm_ok, R.bind_ok] at z
            intro φ6 H6 v l6 s6 rv
            have mp6 := l6.prv P mp5
            have hP6 : H6 P = some (.lst ws) := l6.pst P _ mp5 hP5
            have lt6 := lt5.trans l6
            refine ⟨ws, hP6, line_gt (by omega), φ6, S3, ys ++ [yv], ws ++ [v], Le.priv s6 mp6 _ φ1 H1 hP lt6, mp6, ?_, s6.priv mp6 _, upd_same, ?_, by simp; omega, ?_⟩
            · exact (((hE'.mono l4).mono l5).mono l6).priv mp6 _
            · exact RelL.priv _ mp6 ((RelL.mono l6 (RelL.mono l5 rr4)).append (.cons rv .nil))
            · revert z
              cases lcL t q e (wipeR ρ vs) (ds.drop (i + 1)) S3 with
              | ok zs S4 =>
                simp only [R.bind_ok, List.append_assoc, List.cons_append, List.nil_append]
                exact id
              | err x S4 => exact id
              | bad => exact id
  · have e2 : i = ds.length := by omega
    subst e2
    rw [List.drop_length] at z
    simp only [lcL, R.bind_ok, List.append_nil] at z
    refine .inl ⟨ir.stop φ' H' l', z (φ'.out P) H' _ (Le.out s hP l') s'.out (.lst (line_ge (by omega)) hP' ⟨fun lv j e => s'.dis lv j P e mp, fun q => ?_⟩ (RelL.out rr))⟩
    have := (List.mem_filter.mp q).2
    simp at this
section
variable {X : Cx} {W : WX} {elt tg iter : Expr} {ifs : List Expr} {scope : Scope} {own : List (Str × Nat)} {pos : Pos} {ci : CI} {t : Tg} {sl : List Nat} {q : CT} {e : C}
/-- what a block's context is -/
abbrev Blk (X : Cx) (scope : Scope) (B : Cx → Prop) : Prop := ∀ (s : Shared) (H : Hp) (C : Addr) (cl : List (Str × Addr)) (fp : List Addr), B (X.blk s H scope (compEnvC scope cl C X.env) fp)
theorem me_lc (hc : X.calm = true) (hN : X.N.Nodup) (hi : MI X W tg iter ci) (ok : BlkOk X.N X.env.scope scope own)
    (hg : ∃ g, GS X.K g t sl ∧ Blk X scope fun Y => PG Y tg g) (ht : Blk X scope fun Y => MTs Y W0 ifs q) (he : Blk X scope fun Y => ME Y W0 elt e) (hsl : ∀ i ∈ sl, i ∈ own.map (·.2) := by decide) (hs : ∀ x, foldedSetIterable iter X.env x = pure x := by intro _; rfl) :
    ME X W (.ListComp elt [⟨tg, iter, ifs, 0⟩] scope pos) (cLc ci t q e (own.map (·.2))) := by
  obtain ⟨g, gs, hg⟩ := hg
  let tt : TT := fun σ H Q => ∃ ρ φ S, RE X.K φ H ρ σ ∧ RS X.K φ H S ∧ Ok X.K X.mg eqB φ H (fun _ _ _ => False) Q (q ρ S)
  let te : TE := fun σ H Q => ∃ ρ φ S, RE X.K φ H ρ σ ∧ RS X.K φ H S ∧ Ok X.K X.mg (Rel X.K) φ H (fun _ _ _ => False) Q (e ρ S)
  exact ⟨(pe_lc (tt := tt) (te := te) hc hN hi.pi ok hg (fun s H C cl fp => (ht s H C cl fp).pt) (fun s H C cl fp => (he s H C cl fp).pe) hs).imp fun σ H Q h => lc_imp (B := fun _ => True) gs hsl (fun _ _ _ z => z) (fun _ _ _ z => z) h⟩
theorem ms_setLc (i : Nat) {y : Str} {py spos : Pos} (hc : X.calm = true) (hN : X.N.Nodup) (hy : X.N[i]? = some y) (hyl : X.env.scope.names.lookup y = some .local)
    (hsw : swapsWith (.ListComp elt [⟨tg, iter, ifs, 0⟩] scope pos) (some (.Name y py)) spos.line X.env = pure true) (hi : MI X W tg iter ci) (ok : BlkOk X.N X.env.scope scope own)
    (hg : ∃ g, GS X.K g t sl ∧ Blk X scope fun Y => PG Y tg g) (ht : Blk X scope fun Y => MTs Y W0 ifs q) (he : Blk X scope fun Y => ME Y W0 elt e) (hsl : ∀ i ∈ sl, i ∈ own.map (·.2) := by decide) (hs : ∀ x, foldedSetIterable iter X.env x = pure x := by intro _; rfl) :
    MS X W (.Assign [.Name y py] (.ListComp elt [⟨tg, iter, ifs, 0⟩] scope pos) spos) (cAsg (tgN i) (cLc ci t q e (own.map (·.2)))) := by
  obtain ⟨g, gs, hg⟩ := hg
  let tt : TT := fun σ H Q => ∃ ρ φ S, RE X.K φ H ρ σ ∧ RS X.K φ H S ∧ Ok X.K X.mg eqB φ H (fun _ _ _ => False) Q (q ρ S)
  let te : TE := fun σ H Q => ∃ ρ φ S, RE X.K φ H ρ σ ∧ RS X.K φ H S ∧ Ok X.K X.mg (Rel X.K) φ H (fun _ _ _ => False) Q (e ρ S)
  refine ⟨(L2.ps_setLc (tt := tt) (te := te) (i := i) hc hN hy hyl hsw hi.pi ok hg (fun s H C cl fp => (ht s H C cl fp).pt) (fun s H C cl fp => (he s H C cl fp).pe) hs).imp fun D' σ H h => ?_⟩
  have h2 := asg_imp (te := rdE X W (cLc ci t q e (own.map (·.2)))) (gs_name i) h
  exact lc_imp (B := fun _ => True) gs hsl (fun _ _ _ z => z) (fun _ _ _ z => z) h2
/-- targets in a block -/
theorem bg_name (i : Nat) {x : Str} {pos : Pos} (h : Blk X scope fun Y => PG Y (.Name x pos) (gName i)) : ∃ g, GS X.K g (tgN i) [i] ∧ Blk X scope fun Y => PG Y (.Name x pos) g := ⟨gName i, gs_name i, h⟩
end

/-! ### calls of the program's defs -/
abbrev Sem' := List D → Sto → R D
/-- the promise of a def whose meaning is f -/
def spM (K : PySem.W.Frag) (mg : Str → Option Value) (n : Nat) (f : Sem') : Sp := fun vs H Q E => vs.length = n ∧ ∃ ds φ S, RelL K φ H ds vs ∧ RS K φ H S ∧ Ok K mg (Rel K) φ H E Q (f ds S)
structure FM (P : Program) (w : World) (K : PySem.W.Frag) (mg : Str → Option Value) (base : Heap) (k : Nat) (f : Addr) (fd : FuncData) (ps : List Str) (m : Sem') : Prop where
  ok : FnOk P w K mg base (L2.CX P w) k f fd ps (spM K mg ps.length m)
  kp : PySem.W.keepIn K (.ref f) = true
section
variable {X : Cx} {W : WX} {k : Nat} {f : Addr} {fd : FuncData} {ps : List Str} {m : Sem'} {x : Str} {p pos : Pos} {e : Expr} {es : List Expr} {ca : CA}
theorem me_call (F : FM X.prog X.w X.K X.mg X.base k f fd ps m) (tk : Takes X W) (hr : Room k X.A) (hg : Gl X x) (hm : X.mg x = some (.ref f)) (hb : Binds X.K fd ps []) (ha : MA X W (e :: es) ca)
    (hl : (e :: es).length = ps.length := by rfl) (hdb : (x == ("__debug__" : Str)) = false := by decide) (he : starEach (e :: es) X.env = (false, eval e X.env) :: starEach es X.env := by rfl) (hpl : (backTo pos (starEach es X.env)).any (·.1) = false := by rfl) :
    ME X W (.Call (.Name x p) (e :: es) [] pos) (cCall m ca) := by
  refine ⟨(pe_callS (E := WE W) F.ok hr hg hm F.kp hb (passAt tk) ha.pa hdb he hpl).imp fun σ H Q h => ?_⟩
  obtain ⟨ρ, φ, S, hE, hs, h⟩ := h
  exact ⟨ρ, φ, S, hE, hs, Ok.stepA ha h fun ds S1 φ1 H1 vs l1 l2 l s r z => ⟨by rw [l2]; exact hl, ds, φ1, S1, r, s, z⟩⟩
theorem me_call0 (F : FM X.prog X.w X.K X.mg X.base k f fd [] m) (tk : Takes X W) (hr : Room k X.A) (hg : Gl X x) (hm : X.mg x = some (.ref f)) (hb : Binds X.K fd [] [])
    (hdb : (x == ("__debug__" : Str)) = false := by decide) : ME X W (.Call (.Name x p) [] [] pos) (cCall m caNil) := by
  refine ⟨⟨fun pins s σ H Q I h => ?_⟩⟩
  obtain ⟨ρ, φ, S, hE, hs, h⟩ := h
  refine wpAny_Call_Name_kw (ld_glob I hg hm ?_ hdb)
  refine PySem.W.callWith_K0 I.kIn F.kp ?_
  exact run_fnS (E := WE W) (us := []) (vs := []) F.ok hr hb (passAt tk σ) I .nil ⟨rfl, [], φ, S, .nil, hs, h⟩
end

/-! ### defs -/
/-- what a def hands out: changeable things of its own level become trees -/
def mapO {α : Type} (f : α → Option α) : List α → Option (List α)
  | [] => some []
  | x :: xs => match f x with
    | some y => match mapO f xs with
      | some ys => some (y :: ys)
      | none => none
    | none => none
def D.fz (r : List O) (l : Nat) : Nat → D → Option D
  | 0, _ => none
  | n + 1, d => match d with
    | .ref k i => if k = l then match r[i]? with
        | some (.lst xs) => match mapO (D.fz r l n) xs with
          | some ys => some (.lst ys)
          | none => none
        | some (.box b xs) => match mapO (D.fz r l n) xs with
          | some ys => some (.box b ys)
          | none => none
        | _ => none
      else some (.ref k i)
    | .tup xs => match mapO (D.fz r l n) xs with
      | some ys => some (.tup ys)
      | none => none
    | .lst xs => match mapO (D.fz r l n) xs with
      | some ys => some (.lst ys)
      | none => none
    | .rol xs => match mapO (D.fz r l n) xs with
      | some ys => some (.rol ys)
      | none => none
    | .box b xs => match mapO (D.fz r l n) xs with
      | some ys => some (.box b ys)
      | none => none
    | d => some d
def leave (d : D) : Sto → R D
  | [] => .bad
  | [] :: S => .ok d S
  | r :: S => match D.fz r S.length 40 d with
    | some d' => .ok d' S
    | none => .bad
def fzF (r : List O) (l : Nat) : List (Str × D) → Option (List (Str × D))
  | [] => some []
  | (x, d) :: fs => match D.fz r l 40 d with
    | some d' => match fzF r l fs with
      | some gs => some ((x, d') :: gs)
      | none => none
    | none => none
def leaveX (x : Exn) : Sto → R D
  | [] => .bad
  | r :: S => match fzF r S.length x.fs with
    | some fs => .err ⟨x.c, fs⟩ S
    | none => .bad
def runF (n : Nat) (body : CS) : Sem' := fun args S => match body (args.map some ++ List.replicate (n - args.length) none) ([] :: S) with
  | .nx _ S' => leave .non S'
  | .ret d S' => leave d S'
  | .err x _ S' => leaveX x S'
  | _ => .bad
section
variable {K : PySem.W.Frag} {φ : Phi} {H : Hp} {S : Sto}
/-- the level is laid down -/
theorem away_push {a : Addr} {ψ : List Addr} (h : Away ⟨ψ :: φ.r, φ.p⟩ a) : Away φ a := ⟨fun l i e => h.1 l i (look_push ψ e), h.2⟩
theorem away_new {a : Addr} (h : Away φ a) : Away ⟨[] :: φ.r, φ.p⟩ a := ⟨fun l i e => by
  have e' : look ([] :: φ.r) l i = some a := e
  rw [look] at e'
  split at e'
  · simp at e'
  · exact h.1 _ _ e', h.2⟩
theorem stays_enter : Stays φ H ⟨[] :: φ.r, φ.p⟩ H := fun a o e w => ⟨e, away_new w⟩
theorem Rel.enter {d : D} {v : V} (h : Rel K φ H d v) : Rel K ⟨[] :: φ.r, φ.p⟩ H d v := h.tr stays_enter fun _ _ _ e => look_push _ e
theorem RelL.enter {ds : List D} {vs : List V} (h : RelL K φ H ds vs) : RelL K ⟨[] :: φ.r, φ.p⟩ H ds vs := h.tr stays_enter fun _ _ _ e => look_push _ e
theorem RO.enter {o : O} {a : Addr} (h : RO K φ H o a) : RO K ⟨[] :: φ.r, φ.p⟩ H o a := h.tr stays_enter (fun _ _ _ e => look_push _ e) fun _ e => e
theorem look_enter {α : Type} {rs : List (List α)} {l i : Nat} {a : α} (e : look ([] :: rs) l i = some a) : look rs l i = some a := by
  rw [look] at e
  split at e
  · simp at e
  · exact e
theorem RS.enter (s : RS K φ H S) : RS K ⟨[] :: φ.r, φ.p⟩ H ([] :: S) :=
  ⟨by simp [s.shape], fun l i o a e1 e2 => (s.obj l i o a (look_enter e1) (look_enter e2)).enter, fun l i l' i' a e1 e2 => s.inj l i l' i' a (look_enter e1) (look_enter e2), fun l i o e => s.lev l i o (look_enter e), fun l i a e => s.trk l i a (look_enter e), s.ptrk, fun l i a e => s.dis l i a (look_enter e)⟩
mutual
/-- what refers to the levels below alone -/
theorem Rel.exit {ψ : List Addr} {l : Nat} (hl : l < φ.r.length) : ∀ {d : D} {v : V}, Rel K ⟨ψ :: φ.r, φ.p⟩ H d v → d.le l = true → Rel K φ H d v
  | _, _, .non, _ => .non
  | _, _, .bl b, _ => .bl b
  | _, _, .int i, _ => .int i
  | _, _, .str x, _ => .str x
  | _, _, .ty n, _ => .ty n
  | _, _, .tup z f r, h => .tup z (by
      rcases f with ⟨f, w⟩ | f
      · exact .inl ⟨f, away_push w⟩
      · exact .inr f) (RelL.exit hl r (by simpa [D.le] using h))
  | _, _, .lst z f w r, h => .lst z f (away_push w) (RelL.exit hl r (by simpa [D.le] using h))
  | _, _, .rol z f r, h => .rol z (by
      rcases f with ⟨f, w⟩ | f
      · exact .inl ⟨f, away_push w⟩
      · exact .inr f) (RelL.exit hl r (by simpa [D.le] using h))
  | _, _, .box b n w r, h => .box (b.tr (fun _ e => e) fun _ _ e w => ⟨e, away_push w⟩) n (away_push w) (RelL.exit hl r (by simpa [D.le] using h))
  | _, _, .ref (l := k) (i := i) e, h => .ref (by
      have hk : k ≤ l := by simpa [D.le] using h
      have e' : look (ψ :: φ.r) k i = some _ := e
      rw [look_low ψ i (by omega)] at e'
      exact e')
theorem RelL.exit {ψ : List Addr} {l : Nat} (hl : l < φ.r.length) : ∀ {ds : List D} {vs : List V}, RelL K ⟨ψ :: φ.r, φ.p⟩ H ds vs → D.les l ds = true → RelL K φ H ds vs
  | _, _, .nil, _ => .nil
  | _, _, .cons h r, q => by
    simp only [D.les, Bool.and_eq_true] at q
    exact .cons (Rel.exit hl h q.1) (RelL.exit hl r q.2)
end
theorem RS.exit {ψ : List Addr} {r : List O} (s : RS K ⟨ψ :: φ.r, φ.p⟩ H (r :: S)) : RS K φ H S := by
  have sh := s.shape
  simp only [List.map_cons, List.cons.injEq] at sh
  have hlen : φ.r.length = S.length := by have := congrArg List.length sh.2; simpa using this
  refine ⟨sh.2, fun l i o a e1 e2 => ?_, fun l i l' i' a e1 e2 => s.inj l i l' i' a (look_push ψ e1) (look_push ψ e2), fun l i o e => s.lev l i o (look_push r e), fun l i a e => s.trk l i a (look_push ψ e), s.ptrk, fun l i a e => s.dis l i a (look_push ψ e)⟩
  have h := s.obj l i o a (look_push r e1) (look_push ψ e2)
  have lv := s.lev l i o (look_push r e1)
  have hl : l < φ.r.length := look_lt e2
  cases o with
  | lst ds =>
    obtain ⟨vs, v1, v2, v3⟩ := h
    exact ⟨vs, v1, v2, RelL.exit hl v3 lv⟩
  | box b ds =>
    obtain ⟨vs, v1, v3⟩ := h
    exact ⟨vs, v1.tr (fun _ e => e) fun _ _ e w => ⟨e, away_push w⟩, RelL.exit hl v3 lv⟩
  | dead => trivial
theorem mapO_rel {α β : Type} {f : α → Option α} : True := trivial
theorem Rel.fz {ψ : List Addr} {r : List O} (s : RS K ⟨ψ :: φ.r, φ.p⟩ H (r :: S)) : ∀ (n : Nat) {d d' : D} {v : V}, Rel K ⟨ψ :: φ.r, φ.p⟩ H d v → D.fz r S.length n d = some d' → Rel K φ H d' v := by
  intro n
  have sh := s.shape
  simp only [List.map_cons, List.cons.injEq] at sh
  have hlen : φ.r.length = S.length := by have := congrArg List.length sh.2; simpa using this
  induction n with
  | zero => intro d d' v _ h; cases h
  | succ n ih =>
    have many : ∀ {ds ds' : List D} {vs : List V}, RelL K ⟨ψ :: φ.r, φ.p⟩ H ds vs → mapO (D.fz r S.length n) ds = some ds' → RelL K φ H ds' vs := by
      intro ds
      induction ds with
      | nil =>
        intro ds' vs q h
        cases q
        simp only [mapO, Option.some.injEq] at h
        subst h
        exact .nil
      | cons d ds ihl =>
        intro ds' vs q h
        cases q with
        | cons q1 q2 =>
          unfold mapO at h
          cases z1 : D.fz r S.length n d with
          | none => simp only [z1] at h; cases h
          | some y =>
            simp only [z1] at h
            cases z2 : mapO (D.fz r S.length n) ds with
            | none => simp only [z2] at h; cases h
            | some ys =>
              simp only [z2, Option.some.injEq] at h
              subst h
              exact .cons (ih q1 z1) (ihl q2 z2)
    intro d d' v q h
    cases q with
    | non => cases h; exact .non
    | bl b => cases h; exact .bl b
    | int i => cases h; exact .int i
    | str x => cases h; exact .str x
    | ty n => cases h; exact .ty n
    | tup z f rr =>
      rename_i a vs ds
      unfold D.fz at h
      cases z2 : mapO (D.fz r S.length n) ds with
      | none => simp only [z2] at h; cases h
      | some ys =>
        simp only [z2, Option.some.injEq] at h
        subst h
        refine .tup z ?_ (many rr z2)
        rcases f with ⟨f, w⟩ | f
        · exact .inl ⟨f, away_push w⟩
        · exact .inr f
    | lst z f w rr =>
      rename_i a vs ds
      unfold D.fz at h
      cases z2 : mapO (D.fz r S.length n) ds with
      | none => simp only [z2] at h; cases h
      | some ys =>
        simp only [z2, Option.some.injEq] at h
        subst h
        exact .lst z f (away_push w) (many rr z2)
    | rol z f rr =>
      rename_i a vs ds
      unfold D.fz at h
      cases z2 : mapO (D.fz r S.length n) ds with
      | none => simp only [z2] at h; cases h
      | some ys =>
        simp only [z2, Option.some.injEq] at h
        subst h
        refine .rol z ?_ (many rr z2)
        rcases f with ⟨f, w⟩ | f
        · exact .inl ⟨f, away_push w⟩
        · exact .inr f
    | box b nn w rr =>
      rename_i a vs ds bx
      unfold D.fz at h
      cases z2 : mapO (D.fz r S.length n) ds with
      | none => simp only [z2] at h; cases h
      | some ys =>
        simp only [z2, Option.some.injEq] at h
        subst h
        exact .box (b.tr (fun _ e => e) fun _ _ e w => ⟨e, away_push w⟩) nn (away_push w) (many rr z2)
    | ref e =>
      rename_i l i a
      unfold D.fz at h
      by_cases hk : l = S.length
      · simp only [hk, if_true] at h
        subst hk
        cases z1 : r[i]? with
        | none => simp only [z1] at h; cases h
        | some o =>
          cases o with
          | dead => simp only [z1] at h; cases h
          | lst xs =>
            simp only [z1] at h
            cases z2 : mapO (D.fz r S.length n) xs with
            | none => simp only [z2] at h; cases h
            | some ys =>
              simp only [z2, Option.some.injEq] at h
              subst h
              obtain ⟨vs, v1, v2, v3⟩ := s.obj S.length i (.lst xs) a (by rw [look_top]; exact z1) e
              refine .lst v2 v1 ⟨fun l' i' e' => ?_, s.dis _ _ _ e⟩ (many v3 z2)
              have hlt := look_lt e'
              have := s.inj _ _ _ _ a e (look_push ψ e')
              omega
          | box b xs =>
            simp only [z1] at h
            cases z2 : mapO (D.fz r S.length n) xs with
            | none => simp only [z2] at h; cases h
            | some ys =>
              simp only [z2, Option.some.injEq] at h
              subst h
              obtain ⟨vs, v1, v3⟩ := s.obj S.length i (.box b xs) a (by rw [look_top]; exact z1) e
              refine .box (v1.tr (fun _ e => e) fun _ _ e w => ⟨e, away_push w⟩) (s.trk _ _ _ e) ⟨fun l' i' e' => ?_, s.dis _ _ _ e⟩ (many v3 z2)
              have hlt := look_lt e'
              have := s.inj _ _ _ _ a e (look_push ψ e')
              omega
      · simp only [hk, if_false, Option.some.injEq] at h
        subst h
        have e' : look (ψ :: φ.r) l i = some a := e
        have hlt := look_lt e'
        simp only [List.length_cons] at hlt
        rw [look_low ψ i (by omega)] at e'
        exact .ref e'
end
theorem Le.exit {φ φ' : Phi} {H H' : Hp} {ψ : List Addr} (e : Le ⟨[] :: φ.r, φ.p⟩ H ⟨ψ :: φ'.r, φ'.p⟩ H') : Le φ H φ' H' := by
  have hd : φ'.r.length = φ.r.length := by have := e.dep; simpa using this
  refine ⟨hd, fun l i a q => ?_, fun a o q w => ?_, e.prv, e.pst⟩
  · have h1 := e.grow l i a (look_push [] q)
    have hlt := look_lt q
    have h1 : look (ψ :: φ'.r) l i = some a := h1
    rw [look_low ψ i (by omega)] at h1
    exact h1
  · obtain ⟨h1, w1⟩ := e.stay a o q (away_new w)
    exact ⟨h1, away_push w1⟩
/-- behind a body -/
theorem leave_ok {K : PySem.W.Frag} {mg : Str → Option Value} {φ φ1 : Phi} {H H1 : Hp} {S1 : Sto} {d : D} {v : V} {E : XK} {Q : VK} (l : Le ⟨[] :: φ.r, φ.p⟩ H φ1 H1) (s : RS K φ1 H1 S1) (r : Rel K φ1 H1 d v)
    (z : Ok K mg (Rel K) φ H E Q (leave d S1)) : Q v H1 := by
  obtain ⟨r1, p1⟩ := φ1
  cases S1 with
  | nil => exact z.elim
  | cons ro S2 =>
    cases r1 with
    | nil => have := l.dep; simp at this
    | cons ψ r2 =>
      have l2 : Le φ H ⟨r2, p1⟩ H1 := Le.exit (φ' := ⟨r2, p1⟩) l
      have s2 : RS K ⟨r2, p1⟩ H1 S2 := RS.exit (φ := ⟨r2, p1⟩) s
      cases ro with
      | nil =>
        have sh := s.shape
        simp only [List.map_cons, List.cons.injEq] at sh
        have e : ψ = [] := by have := sh.1; simpa using this
        subst e
        exact z ⟨r2, p1⟩ H1 v l2 s2 (r.tr (fun _ _ e w => ⟨e, away_push (φ := ⟨r2, p1⟩) w⟩) fun _ _ _ e => look_enter e)
      | cons o ro =>
        unfold leave at z
        cases q : D.fz (o :: ro) S2.length 40 d with
        | none => simp only [q] at z; exact z.elim
        | some d' =>
          simp only [q] at z
          exact z ⟨r2, p1⟩ H1 v l2 s2 (Rel.fz (φ := ⟨r2, p1⟩) s 40 r q)
theorem fzF_ok {K : PySem.W.Frag} {φ : Phi} {H : Hp} {S : Sto} {ψ : List Addr} {r : List O} (s : RS K ⟨ψ :: φ.r, φ.p⟩ H (r :: S)) : ∀ {fs gs : List (Str × D)} {vs : List (Str × V)}, RF K ⟨ψ :: φ.r, φ.p⟩ H fs vs → fzF r S.length fs = some gs → RF K φ H gs vs
  | [], gs, vs, q, h => by
    simp only [fzF, Option.some.injEq] at h
    subst h
    obtain ⟨q1, q2⟩ := q
    cases vs with
    | nil => exact ⟨rfl, .nil⟩
    | cons _ _ => simp at q1
  | (x, d) :: fs, gs, vs, q, h => by
    unfold fzF at h
    cases z1 : D.fz r S.length 40 d with
    | none => simp only [z1] at h; cases h
    | some d' =>
      simp only [z1] at h
      cases z2 : fzF r S.length fs with
      | none => simp only [z2] at h; cases h
      | some gs' =>
        simp only [z2, Option.some.injEq] at h
        subst h
        obtain ⟨q1, q2⟩ := q
        cases vs with
        | nil => simp at q1
        | cons p vs =>
          obtain ⟨y, v⟩ := p
          simp only [List.map_cons, List.cons.injEq] at q1 q2
          cases q2 with
          | cons q3 q4 =>
            obtain ⟨r1, r2⟩ := fzF_ok s ⟨q1.2, q4⟩ z2
            exact ⟨by simp [q1.1, r1], .cons (Rel.fz s 40 q3 z1) r2⟩
theorem leaveX_ok {K : PySem.W.Frag} {mg : Str → Option Value} {φ φ1 : Phi} {H H1 : Hp} {S1 : Sto} {x : Exn} {cls : Value} {dx : Option Addr} {E : XK} {Q : VK} (l : Le ⟨[] :: φ.r, φ.p⟩ H φ1 H1) (s : RS K φ1 H1 S1) (r : RX K mg φ1 H1 x cls dx)
    (z : Ok K mg (Rel K) φ H E Q (leaveX x S1)) : E cls dx H1 := by
  obtain ⟨r1, p1⟩ := φ1
  cases S1 with
  | nil => exact z.elim
  | cons ro S2 =>
    cases r1 with
    | nil => have := l.dep; simp at this
    | cons ψ r2 =>
      have l2 : Le φ H ⟨r2, p1⟩ H1 := Le.exit (φ' := ⟨r2, p1⟩) l
      have s2 : RS K ⟨r2, p1⟩ H1 S2 := RS.exit (φ := ⟨r2, p1⟩) s
      unfold leaveX at z
      cases q : fzF ro S2.length x.fs with
      | none => simp only [q] at z; exact z.elim
      | some fs =>
        simp only [q] at z
        obtain ⟨a, dd, vs, e1, e2, e3, e4, e5, e6⟩ := r
        exact z ⟨r2, p1⟩ H1 cls dx l2 s2 ⟨a, dd, vs, e1, e2, e3, e4, away_push (φ := ⟨r2, p1⟩) e5, fzF_ok (φ := ⟨r2, p1⟩) s e6 q⟩
/-- what a body stands in -/
structure Cok (X : Cx) (W : WX) (k : Nat) : Prop where
  tk : Takes X W
  po : PassesOwn (model X.prog X.w) X.A X.env X.xe
  calm : X.calm = true
  room : Room k X.A
section
variable {P : Program} {w : World} {K : PySem.W.Frag} {mg : Str → Option Value} {base : Heap}
/-- a def has the meaning of its body -/
theorem fm_of {x qual : Str} {st : Stmt} {f : Addr} {fd : FuncData} {N ps : List Str} {k : Nat} {c : CS} (F : Fun K x qual st f fd) (Sc : FnScope N ps (defScope st))
    (body : ∀ (cdv : Value) (A : Around) (outer : List Env) (s : Shared) (H : Hp) (E : XK), Cok (cxOf (L2.CX P w) P w K mg base N qual (defScope st) f cdv A outer s H E) (fun cls d _ H => E cls d H) k →
      MSs (cxOf (L2.CX P w) P w K mg base N qual (defScope st) f cdv A outer s H E) (fun cls d _ H => E cls d H) (defBody st) c) :
    FM P w K mg base (k + 1) f fd ps (runF N.length c) := by
  refine ⟨F.okX Sc (fun vs H Q E h => h.1) (fun cdv A outer s H vs Q E hr h => ?_), F.kp⟩
  obtain ⟨hl, ds, φ, S, r, st0, h⟩ := h
  have hb := body cdv A outer s H E ⟨takes_of rfl rfl rfl rfl, passes_of rfl, rfl, hr⟩
  refine ⟨_, hb.ps, ds.map some ++ List.replicate (N.length - ds.length) none, ⟨[] :: φ.r, φ.p⟩, [] :: S, ?_, st0.enter, ?_⟩
  · refine ⟨by simp [L2.start, r.length], fun i d q => ?_⟩
    by_cases hi : i < ds.length
    · rw [List.getElem?_append_left (by simpa using hi)] at q
      rw [List.getElem?_map] at q
      cases q2 : ds[i]? with
      | none => rw [q2] at q; cases q
      | some d2 =>
        rw [q2] at q
        cases q
        obtain ⟨v, e1, e2⟩ := r.get q2
        refine ⟨v, ?_, e2.enter⟩
        unfold L2.start
        rw [List.getElem?_append_left (by simpa [← r.length] using hi), List.getElem?_map, e1]
        rfl
    · rw [List.getElem?_append_right (by simpa using hi)] at q
      rw [List.getElem?_replicate] at q
      split at q <;> cases q
  · unfold runF at h
    cases q : c (ds.map some ++ List.replicate (N.length - ds.length) none) ([] :: S) with
    | nx ρ1 S1 =>
      rw [q] at h
      exact fun φ1 H1 σ1 l s re => leave_ok l s .non h
    | ret d S1 =>
      rw [q] at h
      exact fun φ1 H1 v l s rv => leave_ok l s rv h
    | brk ρ1 S1 => rw [q] at h; exact h.elim
    | cnt ρ1 S1 => rw [q] at h; exact h.elim
    | err x ρ1 S1 =>
      rw [q] at h
      exact fun φ1 H1 σ1 cls dx l s re rx => leaveX_ok l s rx h
    | bad => rw [q] at h; exact h.elim
theorem FM.mono {j k : Nat} {f : Addr} {fd : FuncData} {ps : List Str} {m : Sem'} (F : FM P w K mg base j f fd ps m) (h : j ≤ k) : FM P w K mg base k f fd ps m := ⟨F.ok.mono h, F.kp⟩
/-- another meaning that says the same wherever it says something -/
theorem FM.as {k : Nat} {f : Addr} {fd : FuncData} {ps : List Str} {m m' : Sem'} (F : FM P w K mg base k f fd ps m) (h : ∀ ds S, m' ds S = m ds S ∨ m' ds S = .bad) : FM P w K mg base k f fd ps m' :=
  ⟨F.ok.imp fun vs H Q E q => by
    obtain ⟨e, ds, φ, S, r, s, z⟩ := q
    rcases h ds S with q | q
    · rw [q] at z; exact ⟨e, ds, φ, S, r, s, z⟩
    · rw [q] at z; exact z.elim, F.kp⟩
end
/-- no meaning at all -/
theorem fm_bad {P : Program} {w : World} {K : PySem.W.Frag} {mg : Str → Option Value} {base : Heap} {x qual : Str} {st : Stmt} {f : Addr} {fd : FuncData} {ps : List Str} {k : Nat} (F : Fun K x qual st f fd) : FM P w K mg base k f fd ps (fun _ _ => .bad) :=
  ⟨⟨fun vs H Q E h => h.1, fun A outer s H args us vs Q E hr he hb hv h => by
    obtain ⟨_, ds, φ, S, _, _, z⟩ := h
    exact z.elim⟩, F.kp⟩
/-! ### the law -/
/-- what is wanted of a law's def over a script -/
theorem law_end {K : PySem.W.Frag} {mg : Str → Option Value} {m : Sem'} {H : Hp} {a : Addr} {ns : List Int} (hn : ns.length ≤ 63) (hS : SqL K H a (ns.map V.int)) (h : m [.rol (ns.map D.int)] [] = .ok (.bl true) []) :
    spM K mg 1 m [.ref a] H (fun v _ => v = .bl true) (fun _ _ _ => False) := by
  have away : ∀ b, Away ⟨[], []⟩ b := by
    intro b
    constructor
    · intro l i e
      cases e
    · intro z
      cases z
  have rs0 : RS K ⟨[], []⟩ H [] := by
    constructor
    · rfl
    · intro l i o a e; cases e
    · intro l i l' i' a e; cases e
    · intro l i o e; cases e
    · intro l i a e; cases e
    · intro a e; cases e
    · intro l i a e; cases e
  refine ⟨rfl, [.rol (ns.map D.int)], ⟨[], []⟩, [], .cons (.rol ?_ ?_ (RelL.ints ns)) .nil, rs0, ?_⟩
  · rw [List.length_map]
    exact line_ge (by omega)
  · rcases hS with h | h
    · exact .inl ⟨h, away a⟩
    · exact .inr (.inr h)
  · rw [h]
    intro φ' H' v l s r
    cases r
    rfl
theorem law_walk {l : PySem.W.OpenLaw} {k : Nat} {q : Program} {loose : List Str} {XP : (Str → Option Value) → Heap → Prop} {YP : World → Heap → Prop} {d : DefRec} {K : Params → PySem.W.Frag} {m : Sem'} {x : Str}
    (hn : l.most = some 63) (hdf : d.params.defaults = []) (hr : Room k callerA)
    (hY : ∀ (w : World) (h : Heap), YP w h → (K w.params).In h)
    (F : ∀ (w : World) (mg : Str → Option Value) (fa : Addr) (h : Heap), (K w.params).In h → h.Ns mainGlobals mg → mg d.name = some (.ref fa) →
      ∃ fd : FuncData, (∀ (s : Shared) (u : Value), BindsTo s fd ⟨[u], []⟩ [(x, u)]) ∧
        ∀ base : Heap, (K w.params).In base → base.Ns mainGlobals mg → FnOk l.prog w (K w.params) mg base (L2.CX l.prog w) k fa fd [x] (spM (K w.params) mg 1 m))
    (h : ∀ ns : List Int, ns.length ≤ 63 → m [.rol (ns.map D.int)] [] = .ok (.bl true) []) :
    PySem.W.WalkO q loose XP YP l.row.toRowW d [] (fun f vs => PySem.call f vs) := by
  refine walk_of (x := x) (k := k) (CX := fun w => L2.CX l.prog w) (sp := fun w vs H Q E => ∀ mg : Str → Option Value, spM (K w.params) mg 1 m vs H Q E) hn (by rw [sizeLine_eq]; decide) hdf hr hY ?_ ?_ ?_
  · intro w mg fa hh h1 h2 h3
    obtain ⟨fd, hb, hf⟩ := F w mg fa hh h1 h2 h3
    exact ⟨fd, hb, fun base b1 b2 => (hf base b1 b2).imp fun vs H Q E z => z mg⟩
  · intro w H a ns hl _ hS mg
    exact law_end hl hS (h ns hl)
  · intro w H s e s' z
    obtain ⟨_, _, _, _, _, _, _, _, _, _, _, _, z⟩ := z
    exact z
/-! ### a < b < c, as a value and as a test -/
section
variable {X : Cx} {W : WX} {pos : Pos} {a b c : Expr} {ca cb cc : C} {op op' : CmpOp} {g g' : G2}
theorem chain_imp {r r' : R2} (k : ∀ (W : WX) (σ : L2.St) (φ : Phi) (H : Hp) (S : Sto) (x y : D) (vx vy : V) (Q : VK), RS X.K φ H S → Rel X.K φ H x vx → Rel X.K φ H y vy → Ok X.K X.mg (Rel X.K) φ H (fun cls d H' => W cls d σ H') Q (g x y S) → r vx vy H Q)
    (k' : ∀ (W : WX) (σ : L2.St) (φ : Phi) (H : Hp) (S : Sto) (x y : D) (vx vy : V) (Q : VK), RS X.K φ H S → Rel X.K φ H x vx → Rel X.K φ H y vy → Ok X.K X.mg (Rel X.K) φ H (fun cls d H' => W cls d σ H') Q (g' x y S) → r' vx vy H Q)
    {σ : L2.St} {H : Hp} {Q : VK} (h : rdE X W (cChain g g' ca cb cc) σ H Q) : tChain r r' (rdE X W ca) (rdE X W cb) (rdE X W cc) σ H Q := by
  obtain ⟨ρ, φ, S, hE, hs, h⟩ := h
  refine ⟨ρ, φ, S, hE, hs, h.step fun x S1 φ1 H1 vx q l1 s1 rx0 za => ⟨ρ, φ1, S1, hE.mono l1, s1, za.step fun y S2 φ2 H2 vy q2 l2 s2 ry zb => ?_⟩⟩
  have rx := rx0.mono l2
  refine k W σ φ2 H2 S2 x y vx vy _ s2 rx ry (zb.step fun d S3 φ3 H3 v q3 l3 s3 rd z => ?_)
  cases rd <;> try exact z.elim
  rename_i bb
  cases bb with
  | false => exact ⟨false, rfl, by simp only [Bool.false_eq_true, if_false]; exact z φ3 H3 _ (Le.refl _ _) s3 (.bl _)⟩
  | true =>
    refine ⟨true, rfl, ?_⟩
    simp only [if_true]
    refine ⟨ρ, φ3, S3, ((hE.mono l1).mono l2).mono l3, s3, Ok.step z fun w S4 φ4 H4 vw q4 l4 s4 rw' z2 => ?_⟩
    exact k' W σ φ4 H4 S4 y w vy vw Q s4 ((ry.mono l3).mono l4) rw' z2
theorem me_chain (ho : OS X (compareOp op) g) (ho' : OS X (compareOp op') g') (ha : ME X W a ca) (hb : ME X W b cb) (hc : ME X W c cc) (hm : lastMarks [op, op'] [b, c] = false := by with_unfolding_all rfl) :
    ME X W (.Compare a [op, op'] [b, c] pos) (cChain g g' ca cb cc) := by
  obtain ⟨r, hr, k⟩ := ho
  obtain ⟨r', hr', k'⟩ := ho'
  exact ⟨(pe_chain hr hr' ha.pe hb.pe hc.pe hm).imp fun σ H Q h => chain_imp k k' h⟩
theorem mt_chain (ho : OS X (compareOp op) g) (ho' : OS X (compareOp op') g') (ha : ME X W a ca) (hb : ME X W b cb) (hc : ME X W c cc) (hm : lastMarks [op, op'] [b, c] = false := by with_unfolding_all rfl) :
    MT X W (.Compare a [op, op'] [b, c] pos) (cTB (cChain g g' ca cb cc)) := by
  obtain ⟨r, hr, k⟩ := ho
  obtain ⟨r', hr', k'⟩ := ho'
  exact ⟨(pt_chain hr hr' ha.pe hb.pe hc.pe hm).imp fun σ H Q h => chain_imp k k' (rdT_of (t := cTB (cChain g g' ca cb cc)) h)⟩
end
end MP

/-! MP: own exceptions over ValueError: class, __init__ with super(), raise, try. -/
namespace MP
open PySem PySem.Spec PySem.W PySem.Calls PyProof.Rows PySem.HandSPX L2

/-- self.f = v of an exception at e in the heap -/
abbrev exoO (C t : Addr) (d : Option Addr) : Obj := { cls := .ref C, dict := d, data := .fields #[.ref t, .none, .none, .none, .bool false, .none] }

/-- what a def of a class over ValueError must be, whose body says super() -/
structure SupFn (prog : Program) (K : Frag) (f D : Addr) (q : Str) (ps : List Str) (fd : FuncData) : Prop where
  at_ : ∃ oc od osl, K.lookup f = some ⟨oc, od, .func fd, osl⟩
  ty : typeIn K (.ref f) = some (.type "function")
  qual : fd.qualname = q
  glob : fd.globals = mainGlobals
  blt : fd.builtins = builtinsNs
  code : codeIn K fd.code q = true
  file : ∃ cda oc od vs sl tf, fd.code = .ref cda ∧ K.lookup cda = some ⟨oc, od, .fields vs, sl⟩ ∧ vs[2]? = some (.str prog.main.file tf)
  cell : ∃ cc oc od sl, fd.closure = [(("__class__" : Str), cc)] ∧ K.lookup cc = some ⟨oc, od, .cell (some (.ref D)), sl⟩
  self : ∃ ar, (fd.params.posonlyargs ++ fd.params.args).head? = some ar ∧ ar.arg = "self"
  kind : fd.scope.kind = .function
  noco : fd.scope.isCoroutine = false
  nogen : fd.scope.isGenerator = false
  nocell : ∀ x ∈ fd.scope.names, x.2 ≠ .cell
  loc : ∀ x ∈ ps, fd.scope.names.lookup x = some .local
  sup : fd.scope.names.lookup ("super" : Str) = some .globalImplicit
  cls : fd.scope.names.lookup ("__class__" : Str) = some .free

section
variable {prog : Program} {w : World} {A : Around} {E : Value → Shared → Prop} {K : Frag} {mg : Str → Option Value}
/-- what the globals must be -/
structure Gls (prog : Program) (K : Frag) (mg : Str → Option Value) (h : Heap) : Prop where
  kin : K.In h
  g : h.Ns mainGlobals mg
  b : ∃ mb, h.Ns builtinsNs mb ∧ ∀ x : Str, x ≠ "__name__" → mb x = bootBuiltins x
  nolimit : h.NoLimit
theorem Gls.keeps {h h' : Heap} (G : Gls prog K mg h) (k : ∀ b o, h.get? b = some o → h'.get? b = some o) : Gls prog K mg h' :=
  ⟨G.kin.keeps k, G.g.keeps k, let ⟨mb, b1, b2⟩ := G.b; ⟨mb, b1.keeps k, b2⟩, G.nolimit.keeps k⟩

/-- super().attr: the super object -/
theorem sup_node {body : List Stmt} {p0 p1 : Pos} {attr : Str} {whole : Sem Value} {fd : FuncData} {f L D x C : Addr} {q : Str} {ps : List Str} {ox : Obj} {odx : Option Obj} {cdD : ClassData} {m : Str → Option Value} {Q : Value → Shared → Prop}
    {h : Heap} {g : Array GenState} {d : Drawn} {t : Nat} {os : OsState} (SF : SupFn prog K f D q ps fd) (G : Gls prog K mg h) (hL : h.Ns L m) (hv : m "self" = some (.ref x)) (hps : ("self" : Str) ∈ ps) (I : InstAt h x ox C odx)
    (hD : clsIn K D = some cdD) (hsub : mroIn K C (.ref D) = some true) (hsuper : mg "super" = none) (htop : (prog.main.scope.names.lookup ("super" : Str)).isSome = false)
    (hat : (attr == ("__class__" : Str)) = false) (hboot : bootBuiltins "super" = some (.type "super"))
    (hq : ∀ h', h'.get? h.objs.size = some (ks_superObj D x C) → (∀ y o, h.get? y = some o → h'.get? y = some o) → Q (.ref h.objs.size) ⟨h', g, d, t, os⟩) :
    _root_.PySem.wpAt (model prog w) A (.func body (callEnv fd L f)) (attributeBase (.Call (.Name "super" p0) [] [] p1) attr (callEnv fd L f) whole) Q E ⟨h, g, d, t, os⟩ := by
  obtain ⟨oc, od, osl, hf⟩ := SF.at_
  obtain ⟨cda, oc2, od2, vs, sl2, tf, hco, hcd, hvs⟩ := SF.file
  obtain ⟨cc, oc3, od3, sl3, hcl, hcc⟩ := SF.cell
  obtain ⟨ar, hp, har⟩ := SF.self
  obtain ⟨mb, hb, hbb⟩ := G.b
  obtain ⟨oD, hD1, hD2⟩ : ∃ oD, h.get? D = some oD ∧ oD.data = .cls cdD := by
    unfold clsIn at hD
    split at hD
    · rename_i c d cd' sl ho
      cases hD
      exact ⟨_, G.kin _ _ ho, rfl⟩
    · cases hD
  refine ks_wpAt_super_base (env := callEnv fd L f) SF.sup SF.cls hat rfl (G.kin _ _ hf) rfl hp hco (G.kin _ _ hcd) rfl hvs (beq_self_eq_true _) htop ?_
  have hgl : (callEnv fd L f).globals = mainGlobals := SF.glob
  have hbl : (callEnv fd L f).builtins = builtinsNs := SF.blt
  refine ks_loadName_global SF.kind SF.sup (loadGlobal_builtin (env := callEnv fd L f) (by rw [hgl]; exact G.g) hsuper (by rw [hbl]; exact hb) ((hbb _ (by decide +kernel)).trans hboot) ⟨rfl, ?_⟩)
  have hce : (callEnv fd L f).cells.lookup ("__class__" : Str) = some cc := by
    show fd.closure.lookup ("__class__" : Str) = some cc
    rw [hcl]; rfl
  refine wpAny_loadName_free SF.kind SF.cls hce ⟨_, G.kin _ _ hcc, rfl⟩ ?_
  rw [har]
  refine wpAny_loadName_local SF.kind (SF.loc _ hps) hL hv ?_
  refine ks_wpAny_isType_cls hD1 hD2 ⟨rfl, ?_⟩
  refine ks_wpAny_call_super hD1 hD2 I.at_ I.cls (fun c e => ?_) (looks_mroIn G.kin hsub) (fun h' e k => ?_)
  · have := I.no
    unfold notCls at this
    rw [e] at this
    exact Bool.noConfusion this
  · exact hq h' e k

/-- the facts of a class over ValueError -/
structure ExCls (K : Frag) (C : Addr) : Prop where
  o : OexC K C
  obj : subIn K (.ref C) (.type "ValueError") = some true
  tpa : nsIn K cStatics "thirdparty.any" = some none

/-- self.f = v, the first field -/
theorem set_new {C x dx' t1 : Addr} {f : Str} {v : Value} {Q : Unit → Shared → Prop} {h : Heap} {g : Array GenState} {d : Drawn} {t : Nat} {os : OsState} (T : OexC K C) (X : K.In h) (hx : h.get? x = some (exoO C t1 none)) (hno : findIn K (.ref C) f = some none)
    (hq : ∀ h' tk' dx, (∀ b o, b ≠ x → h.get? b = some o → h'.get? b = some o) → h.objs.size ≤ dx → dx ≠ x → h'.get? x = some (exoO C t1 (some dx)) → h'.Ns1 dx (fun y => if y = f then some v else none) → Q () ⟨h', g, d, tk', os⟩) :
    wpAny (model prog w) A (setAttr (.ref x) f v) Q E ⟨h, g, d, t, os⟩ := by
  obtain ⟨nm, q, N, bs, bm, sn, sub, ab, col, dd, k0, k1, k2, k3, k5, hC, hbm⟩ := T.cls
  have hcl : clsIn K C = some { name := nm, bases := bs, mro := .ref C :: bm, ns := N, qualname := q, hasDict := true, slotNames := sn, subclasses := sub, abstract := ab, collection := col, hasDel := false } := by unfold clsIn; rw [hC] <;> rfl
  refine set_plain X (ox := exoO C t1 none) (od := none) ⟨hx, rfl, rfl, trivial⟩ T.sa ?_
  exact exc_osa X hx hcl (show refsVE (.ref C :: bm) = true from hbm) rfl hno fun h' tk' dx k dn dne e hn => hq h' tk' dx k dn dne e hn
/-- a further field -/
theorem set_old {C x dx t1 : Addr} {f : Str} {v : Value} {m0 : Str → Option Value} {nl : List Str} {Q : Unit → Shared → Prop} {h : Heap} {g : Array GenState} {d : Drawn} {t : Nat} {os : OsState} (T : OexC K C) (X : K.In h) (hx : h.get? x = some (exoO C t1 (some dx))) (hns : h.Ns1 dx m0) (hw : Within m0 nl) (hz : nl.length ≤ 1000)
    (hno : findIn K (.ref C) f = some none)
    (hq : ∀ h' tk', (∀ b o, b ≠ dx → h.get? b = some o → h'.get? b = some o) → h'.Ns1 dx (fun y => if y = f then some v else m0 y) → Q () ⟨h', g, d, tk', os⟩) :
    wpAny (model prog w) A (setAttr (.ref x) f v) Q E ⟨h, g, d, t, os⟩ := by
  obtain ⟨nm, q, N, bs, bm, sn, sub, ab, col, dd, k0, k1, k2, k3, k5, hC, hbm⟩ := T.cls
  have hcl : clsIn K C = some { name := nm, bases := bs, mro := .ref C :: bm, ns := N, qualname := q, hasDict := true, slotNames := sn, subclasses := sub, abstract := ab, collection := col, hasDel := false } := by unfold clsIn; rw [hC] <;> rfl
  obtain ⟨oD, _, _, hoD, _, _⟩ := hns.count hw
  refine set_plain X (ox := exoO C t1 (some dx)) (od := some oD) ⟨hx, rfl, rfl, hoD⟩ T.sa ?_
  exact PySem.OEX.osa_old X hx hns hw hz hcl (show refsVE (.ref C :: bm) = true from hbm) rfl hno fun h' tk' k hn => hq h' tk' k hn

/-- the bodies of the two kinds of __init__ -/
def initBase (nm : Str) (j : Nat) (p : Nat → Pos) : List Stmt :=
  [.Expr (.Call (.Attribute (.Call (.Name "super" (p 0)) [] [] (p 1)) "__init__" (p 2)) [.Name "place" (p 3)] [] (p 4)) (p 5),
   .Assign [.Attribute (.Name "self" (p 6)) "place" (p 7)] (.Name "place" (p 8)) (p 9),
   .Assign [.Attribute (.Name "self" (p 10)) "name" (p 11)] (.Constant (.str nm) j (p 12)) (p 13)]
def initSub (nm : Str) (j : Nat) (p : Nat → Pos) : List Stmt :=
  [.Expr (.Call (.Attribute (.Call (.Name "super" (p 0)) [] [] (p 1)) "__init__" (p 2)) [.Name "place" (p 3)] [] (p 4)) (p 5),
   .Assign [.Attribute (.Name "self" (p 10)) "name" (p 11)] (.Constant (.str nm) j (p 12)) (p 13)]

def supCall (p : Nat → Pos) : Expr := .Call (.Attribute (.Call (.Name "super" (p 0)) [] [] (p 1)) "__init__" (p 2)) [.Name "place" (p 3)] [] (p 4)
/-- the call is read in the plain way (at concrete positions: by rfl) -/
def SupEv (p : Nat → Pos) : Prop := ∀ env, ∃ pl : Sem Bool, eval (supCall p) env = (do
  let ov ← attributeBase (.Call (.Name "super" (p 0)) [] [] (p 1)) "__init__" env (eval (.Call (.Name "super" (p 0)) [] [] (p 1)) env)
  standAt (p 2).atName
  let (f, first) ← holding [ov] (getMethod ov "__init__" pl)
  callWith (p 4) f first (backTo (p 4) (starEach [.Name "place" (p 3)] env)) [])
/-- the dict of a ready exception -/
def nmM (nm : Str) (tk0 : Tok) (u : Value) : Str → Option Value := fun y => if y = "name" then some (.str nm tk0) else if y = "place" then some u else none
theorem nmM_within (nm : Str) (tk0 : Tok) (u : Value) : Within (nmM nm tk0 u) ["name", "place"] := fun y hy => by
  unfold nmM at hy
  by_cases h : y = "name"
  · rw [h]; simp
  · rw [if_neg h] at hy
    by_cases h2 : y = "place"
    · rw [h2]; simp
    · rw [if_neg h2] at hy; exact absurd rfl hy
/-- behind such an __init__ -/
def InitEnd (h : Heap) (C x : Addr) (u : Value) (nm : Str) (R : Shared → Prop) (s : Shared) : Prop :=
  ∀ (h' : Heap) (tk : Nat) (tk0 : Tok) (dx t1 : Addr), (∀ b o, b ≠ x → h.get? b = some o → h'.get? b = some o) → h.objs.size ≤ dx → dx ≠ x → h'.get? x = some (exoO C t1 (some dx)) → h'.Ns1 dx (nmM nm tk0 u) → R { s with heap := h', toks := tk }

theorem gate_base {fd : FuncData} {f D x C t0 : Addr} {q nm : Str} {j : Nat} {p : Nat → Pos} {cdD cdC : ClassData} {u : Value} {R : Result → Shared → Prop}
    {h : Heap} {g : Array GenState} {d : Drawn} {t : Nat} {os : OsState} (hr : Room 2 A) (SF : SupFn prog K f D q ["self", "place"] fd) (hb : fd.body = .stmts (initBase nm j p)) (hev : SupEv p) {hb0 : Heap} (G0 : Gls prog K mg hb0) (kb : ∀ b o, hb0.get? b = some o → h.get? b = some o) (xb : hb0.get? x = none)
    (hbind : BindsTo ⟨h, g, d, t, os⟩ fd ⟨[.ref x, u], []⟩ [("self", .ref x), ("place", u)])
    (T : ExCls K C) (hx : h.get? x = some (exoO C t0 none)) (hD : clsIn K D = some cdD) (hC : clsIn K C = some cdC) (hsub : mroIn K C (.ref D) = some true) (hm : ks_superIn K C D "__init__" = some (some (.builtin "ValueError.__init__")))
    (hsuper : mg "super" = none) (htop : (prog.main.scope.names.lookup ("super" : Str)).isSome = false) (hboot : bootBuiltins "super" = some (.type "super"))
    (n1 : findIn K (.ref C) "place" = some none) (n2 : findIn K (.ref C) "name" = some none)
    (hq : InitEnd h C x u nm (R (.ok (.ret .none))) ⟨h, g, d, t, os⟩) :
    codeAny (model prog w) A (.call (.ref f) ⟨[.ref x, u], []⟩) R ⟨h, g, d, t, os⟩ := by
  have G := G0.keeps kb
  obtain ⟨oc, od, osl, hf⟩ := SF.at_
  have hloc : ∀ y ∈ [(("self" : Str), Value.ref x), ("place", u)], fd.scope.names.lookup y.1 = some .local := by
    intro y hy
    simp only [List.mem_cons, List.not_mem_nil, or_false] at hy
    rcases hy with rfl | rfl
    · exact SF.loc _ (by simp)
    · exact SF.loc _ (by simp)
  have hcr : h.CodeRec fd.code fd.qualname := by rw [SF.qual]; exact codeRec_of G.kin SF.code
  refine ks_codeAny_call_defAt hr.depth (G.kin _ _ hf) rfl G.nolimit hcr hb hbind SF.nocell hloc (fun h1 hns1 k1 => ?_) SF.noco SF.nogen SF.kind
  have G1 := G.keeps k1
  have hx1 := k1 _ _ hx
  have I1 : InstAt h1 x (exoO C t0 none) C none := ⟨hx1, rfl, rfl, trivial⟩
  have hint : interactive (callEnv fd h.objs.size f) = false := by
    show (fd.scope.kind == .module && _) = false
    rw [SF.kind]; rfl
  unfold initBase
  refine ks_wpAt_execs_cons ?_
  refine ks_wpAt_Expr_any ?_ hint
  obtain ⟨pl, hpl⟩ := hev (callEnv fd h.objs.size f)
  refine ks_wpAt_MethodCall (pl := pl) ?_ hpl
  refine ks_wpAt_mono (sup_node (Q := fun ov s₁ => ov = .ref h1.objs.size ∧ ∃ h2, s₁ = ⟨h2, g, d, t + 2, os⟩ ∧ h2.get? h1.objs.size = some (ks_superObj D x C) ∧ (∀ y o, h1.get? y = some o → h2.get? y = some o)) (ps := ["self", "place"]) SF G1 (L := h.objs.size) hns1 rfl (by simp) I1 hD hsub hsuper htop (by decide) hboot fun h2 e2 k2 => ⟨rfl, h2, rfl, e2, k2⟩) (fun ov s₁ z => ?_) (fun _ _ z => z)
  obtain ⟨rfl, h2, rfl, e2, k2⟩ := z
  have G2 := G1.keeps k2
  have hx2 := k2 _ _ hx1
  have I2 : InstAt h2 x (exoO C t0 none) C none := ⟨hx2, rfl, rfl, trivial⟩
  have hI : Looks (model prog w) h2 (isInstance (.ref x) (.type "ValueError")) true := I2.type.andThen (looks_subIn G2.kin T.obj)
  have hmm := hm
  unfold ks_superIn at hmm
  rw [hC] at hmm
  refine kxs_getMethod kxs_ValueError e2 (looks_opaque G2.kin T.tpa) (l₀ := cdC.mro) ?_ rfl G2.kin hmm hI (ks_ne G2.kin I2 hC) (by decide) ?_
  · exact fun A Q E s k q => wpAny_bind ((looks_clsIn G2.kin hC) A _ E s k (wpAny_pure q))
  have k3 : ∀ b o, h2.get? b = some o → (h2.push (kxs_mw "ValueError.__init__" x)).get? b = some o := fun b o e => Heap.get?_push_of_some _ e
  have hu : (h2.push (kxs_mw "ValueError.__init__" x)).get? h2.objs.size = some (kxs_mw "ValueError.__init__" x) := Heap.get?_push_at rfl rfl
  have hst : starEach [.Name "place" (p 3)] (callEnv fd h.objs.size f) = (false, eval (.Name "place" (p 3)) (callEnv fd h.objs.size f)) :: starEach [] (callEnv fd h.objs.size f) := rfl
  show wpAny _ _ (callWith (p 4) (.ref h2.objs.size) [] (backTo (p 4) (starEach [.Name "place" (p 3)] (callEnv fd h.objs.size f))) []) _ _ _
  refine kxs_callWith (i := "ValueError.__init__") (x := x) rfl ?_
  rw [hst]
  refine evalArgs_plain (spliced_cons ?_)
  have hns3 := (hns1.keeps k2).keeps k3
  refine wpAny_Name (wpAny_loadName_local SF.kind (SF.loc _ (by simp)) hns3 (v := u) rfl ?_) (by decide)
  refine spliced_nil ⟨hu, ?_⟩
  -- the call of the wrapper
  obtain ⟨nmC, qC, N, bs, bm, sn, sub, ab, col, dd, c0, c1, c2, c3, c5, hCl, hbm⟩ := T.o.cls
  have hx3 := k3 _ _ hx2
  have G3 := G2.keeps k3
  refine wpAny_call (codeAny_of_tree ?_)
  show wpAny _ _ (callAny (.ref h2.objs.size) ⟨[] ++ [u], []⟩) _ _ _
  simp only [callAny, List.nil_append]
  refine wpAny_bind (wpAny_load hu ?_)
  simp only [kxs_mw, show (Value.type "method-wrapper" == Value.type "method" || Value.type "method-wrapper" == Value.type "builtin_function_or_method" || Value.type "method-wrapper" == Value.type "method-wrapper") = true by decide, if_true]
  refine KFB.if_so (by decide) ?_
  refine wpAny_bind (check_bound_init F.excBase_ValueError.toExcCallFacts (G3.kin _ _ hCl) hx3 rfl ?_)
  refine wpAny_bind (wpAny_pure (wpAny_pure ?_))
  refine ⟨plainId_quiet F.excBase_ValueError.init.plain _, codeAny_builtin F.excBase_ValueError.initEntry ?_⟩
  refine exc_init_tree (cls := .ref C) (t0 := t0) (dv := none) (c2 := .none) (c3 := .none) (b4 := .bool false) hx3 (by show 1 ≤ sizeLine; rw [sizeLine_eq]; omega) fun h4 k4 hx4 _ => ?_
  have xb' : ∀ {b : Addr} {o : Obj}, hb0.get? b = some o → b ≠ x := fun e z => by rw [z, xb] at e; cases e
  have kk : ∀ b o, hb0.get? b = some o → h4.get? b = some o := fun b o e => k4 b o (xb' e) (k3 _ _ (k2 _ _ (k1 _ _ (kb _ _ e))))
  have G4 := G0.keeps kk
  have xL : h.objs.size ≠ x := Ne.symm (Nat.ne_of_lt (Heap.lt_size hx))
  have hns4 : h4.Ns h.objs.size fun x_1 => List.lookup x_1 [(("self" : Str), Value.ref x), ("place", u)].reverse := hns3.at fun o e => k4 _ o xL e
  show _root_.PySem.wpAt (model prog w) _ _ (execs [Stmt.Assign _ _ _, Stmt.Assign _ _ _] _) _ _ _
  refine wpAt_of_wpAny (wpAny_execs_cons (plainObj_wpAny_Assign_Attribute ?_ rfl))
  refine wpAny_Name (wpAny_loadName_local SF.kind (SF.loc _ (by simp)) hns4 (v := u) rfl ?_) (by decide)
  refine wpAny_Name (wpAny_loadName_local SF.kind (SF.loc _ (by simp)) hns4 (v := .ref x) rfl ?_) (by decide)
  refine set_new (dx' := x) T.o G4.kin hx4 n1 fun h5 tk5 dx k5 sz5 dne hx5 hn5 => ?_
  have G5 := G0.keeps fun b o e => k5 b o (xb' e) (kk b o e)
  have hns5 : h5.Ns h.objs.size fun x_1 => List.lookup x_1 [(("self" : Str), Value.ref x), ("place", u)].reverse := hns4.at fun o e => k5 _ o xL e
  refine wpAny_execs_cons (plainObj_wpAny_Assign_Attribute ?_ rfl)
  refine Calls.Constant_str ?_
  refine wpAny_Name (wpAny_loadName_local SF.kind (SF.loc _ (by simp)) hns5 (v := .ref x) rfl ?_) (by decide)
  refine set_old T.o G5.kin hx5 hn5 (nl := ["place"]) (fun y hy => by
    by_cases e : y = "place"
    · rw [e]; simp
    · simp only [e, if_false] at hy; exact absurd rfl hy) (by simp) n2 fun h6 tk6 k6 hn6 => ?_
  refine wpAny_execs_nil ?_
  have dxx : x ≠ dx := Ne.symm dne
  have sz4 : h.objs.size ≤ dx := by
    obtain ⟨_, _, _, e4, _⟩ := id hns4
    exact Nat.le_trans (Nat.le_of_lt (Heap.lt_size e4)) sz5
  exact hq h6 tk6 _ dx _ (fun b o hb e => k6 b o (Nat.ne_of_lt (Nat.lt_of_lt_of_le (Heap.lt_size e) sz4)) (k5 b o hb (k4 b o hb (k3 _ _ (k2 _ _ (k1 _ _ e)))))) sz4 dne (k6 _ _ dxx hx5) (by exact hn6)

theorem gate_sub {fdG fd : FuncData} {fG G f D x C t0 : Addr} {qG q nmG nm : Str} {jG j : Nat} {pG p : Nat → Pos} {cdG cdD cdC : ClassData} {u : Value} {R : Result → Shared → Prop}
    {h : Heap} {g : Array GenState} {d : Drawn} {t : Nat} {os : OsState} (hr : Room 4 A) (SG : SupFn prog K fG G qG ["self", "place"] fdG) (hbG : fdG.body = .stmts (initBase nmG jG pG)) (hevG : SupEv pG)
    (SF : SupFn prog K f D q ["self", "place"] fd) (hb : fd.body = .stmts (initSub nm j p)) (hev : SupEv p) {hb0 : Heap} (G0 : Gls prog K mg hb0) (kb : ∀ b o, hb0.get? b = some o → h.get? b = some o) (xb : hb0.get? x = none)
    (hbindG : ∀ s u v, BindsTo s fdG ⟨[u, v], []⟩ [("self", u), ("place", v)]) (hbind : BindsTo ⟨h, g, d, t, os⟩ fd ⟨[.ref x, u], []⟩ [("self", .ref x), ("place", u)])
    (T : ExCls K C) (hx : h.get? x = some (exoO C t0 none)) (hG : clsIn K G = some cdG) (hD : clsIn K D = some cdD) (hC : clsIn K C = some cdC) (hsubG : mroIn K C (.ref G) = some true) (hsub : mroIn K C (.ref D) = some true)
    (hmG : ks_superIn K C G "__init__" = some (some (.builtin "ValueError.__init__"))) (hm : ks_superIn K C D "__init__" = some (some (.ref fG)))
    (hsuper : mg "super" = none) (htop : (prog.main.scope.names.lookup ("super" : Str)).isSome = false) (hboot : bootBuiltins "super" = some (.type "super"))
    (n1 : findIn K (.ref C) "place" = some none) (n2 : findIn K (.ref C) "name" = some none)
    (hq : InitEnd h C x u nm (R (.ok (.ret .none))) ⟨h, g, d, t, os⟩) :
    codeAny (model prog w) A (.call (.ref f) ⟨[.ref x, u], []⟩) R ⟨h, g, d, t, os⟩ := by
  have G1 := G0.keeps kb
  obtain ⟨oc, od, osl, hf⟩ := SF.at_
  have hloc : ∀ y ∈ [(("self" : Str), Value.ref x), ("place", u)], fd.scope.names.lookup y.1 = some .local := by
    intro y hy
    simp only [List.mem_cons, List.not_mem_nil, or_false] at hy
    rcases hy with rfl | rfl
    · exact SF.loc _ (by simp)
    · exact SF.loc _ (by simp)
  have hcr : h.CodeRec fd.code fd.qualname := by rw [SF.qual]; exact codeRec_of G1.kin SF.code
  refine ks_codeAny_call_defAt hr.depth (G1.kin _ _ hf) rfl G1.nolimit hcr hb hbind SF.nocell hloc (fun h1 hns1 k1 => ?_) SF.noco SF.nogen SF.kind
  have G1 := G1.keeps k1
  have hx1 := k1 _ _ hx
  have I1 : InstAt h1 x (exoO C t0 none) C none := ⟨hx1, rfl, rfl, trivial⟩
  have hint : interactive (callEnv fd h.objs.size f) = false := by
    show (fd.scope.kind == .module && _) = false
    rw [SF.kind]; rfl
  unfold initSub
  refine ks_wpAt_execs_cons ?_
  refine ks_wpAt_Expr_any ?_ hint
  obtain ⟨pl, hpl⟩ := hev (callEnv fd h.objs.size f)
  refine ks_wpAt_MethodCall (pl := pl) ?_ hpl
  refine ks_wpAt_mono (sup_node (Q := fun ov s₁ => ov = .ref h1.objs.size ∧ ∃ h2, s₁ = ⟨h2, g, d, t + 2, os⟩ ∧ h2.get? h1.objs.size = some (ks_superObj D x C) ∧ (∀ y o, h1.get? y = some o → h2.get? y = some o)) (ps := ["self", "place"]) SF G1 (L := h.objs.size) hns1 rfl (by simp) I1 hD hsub hsuper htop (by decide) hboot fun h2 e2 k2 => ⟨rfl, h2, rfl, e2, k2⟩) (fun ov s₁ z => ?_) (fun _ _ z => z)
  obtain ⟨rfl, h2, rfl, e2, k2⟩ := z
  have G2 := G1.keeps k2
  have hx2 := k2 _ _ hx1
  have I2 : InstAt h2 x (exoO C t0 none) C none := ⟨hx2, rfl, rfl, trivial⟩
  obtain ⟨ocG, odG, oslG, hfG⟩ := SG.at_
  have hcG : ocG = .type "function" := by
    have this : (K.lookup fG).map (·.cls) = some (.type "function") := SG.ty
    rw [hfG] at this
    exact Option.some.inj this
  have hmm := hm
  unfold ks_superIn at hmm
  rw [hC] at hmm
  refine ks_wpAny_getMethod_super e2 (looks_opaque G2.kin T.tpa) (l₀ := cdC.mro) ?_ rfl G2.kin hmm (G2.kin _ _ hfG) hcG (ks_ne G2.kin I2 hC) (by decide) ?_
  · exact fun A Q E s k q => wpAny_bind ((looks_clsIn G2.kin hC) A _ E s k (wpAny_pure q))
  have k3 : ∀ b o, h2.get? b = some o → (h2.push (methodObj (.ref fG) (.ref x))).get? b = some o := fun b o e => Heap.get?_push_of_some _ e
  have hu : (h2.push (methodObj (.ref fG) (.ref x))).get? h2.objs.size = some (methodObj (.ref fG) (.ref x)) := Heap.get?_push_at rfl rfl
  have hst : starEach [.Name "place" (p 3)] (callEnv fd h.objs.size f) = (false, eval (.Name "place" (p 3)) (callEnv fd h.objs.size f)) :: starEach [] (callEnv fd h.objs.size f) := rfl
  have hfn : fnIn K fG = true := by unfold fnIn; rw [hfG]
  show wpAny _ _ (callWith (p 4) (.ref h2.objs.size) [] (backTo (p 4) (starEach [.Name "place" (p 3)] (callEnv fd h.objs.size f))) []) _ _ _
  refine callWith_of (P := MethP K h2.objs.size fG (.ref x)) rfl (keeps_M hfn) ?_
  rw [hst]
  refine evalArgs_plain (spliced_cons ?_)
  have hns3 := (hns1.keeps k2).keeps k3
  refine wpAny_Name (wpAny_loadName_local SF.kind (SF.loc _ (by simp)) hns3 (v := u) rfl ?_) (by decide)
  have G3 := G2.keeps k3
  refine spliced_nil ⟨⟨hu, G3.kin⟩, ?_⟩
  have kk3 : ∀ b o, hb0.get? b = some o → (h2.push (methodObj (.ref fG) (.ref x))).get? b = some o := fun b o e => k3 _ _ (k2 _ _ (k1 _ _ (kb _ _ e)))
  have xb' : ∀ {b : Addr} {o : Obj}, hb0.get? b = some o → b ≠ x := fun e z => by rw [z, xb] at e; cases e
  have xL : h.objs.size ≠ x := Ne.symm (Nat.ne_of_lt (Heap.lt_size hx))
  refine wpAny_call (method_call hu ?_)
  refine gate_base (hb0 := hb0) ?_ SG hbG hevG G0 kk3 xb (hbindG _ _ _) T (k3 _ _ hx2) hG hC hsubG hmG hsuper htop hboot n1 n2 fun h4 tk4 tk0 dx t1 k4 sz4 dne hx4 hn4 => ?_
  · exact (hr.deeper _).mono (by omega)
  have kk : ∀ b o, hb0.get? b = some o → h4.get? b = some o := fun b o e => k4 b o (xb' e) (kk3 b o e)
  have G4 := G0.keeps kk
  have hns4 : h4.Ns h.objs.size fun x_1 => List.lookup x_1 [(("self" : Str), Value.ref x), ("place", u)].reverse := hns3.at fun o e => k4 _ o xL e
  show _root_.PySem.wpAt (model prog w) _ _ (execs [Stmt.Assign _ _ _] _) _ _ _
  refine wpAt_of_wpAny (wpAny_execs_cons (plainObj_wpAny_Assign_Attribute ?_ rfl))
  refine Calls.Constant_str ?_
  refine wpAny_Name (wpAny_loadName_local SF.kind (SF.loc _ (by simp)) hns4 (v := .ref x) rfl ?_) (by decide)
  refine set_old T.o G4.kin hx4 hn4 (nmM_within _ _ _) (by simp) n2 fun h6 tk6 k6 hn6 => ?_
  refine wpAny_execs_nil ?_
  have dxx : x ≠ dx := Ne.symm dne
  have szd : h.objs.size ≤ dx := by
    obtain ⟨_, _, _, e4, _⟩ := id hns3
    exact Nat.le_trans (Nat.le_of_lt (Heap.lt_size e4)) sz4
  have e : ∀ tkn : Tok, (fun y : Str => if y = "name" then some (Value.str nm tkn) else nmM nmG tk0 u y) = nmM nm tkn u := by
    intro tkn
    funext y
    unfold nmM
    by_cases hy : y = "name" <;> simp [hy]
  rw [e] at hn6
  exact hq h6 tk6 _ dx _ (fun b o hb e => k6 b o (Nat.ne_of_lt (Nat.lt_of_lt_of_le (Heap.lt_size e) szd)) (k4 b o hb (k3 _ _ (k2 _ _ (k1 _ _ e))))) szd dne (k6 _ _ dxx hx4) hn6

/-- a call of the class: the exception stands ready -/
def EndE (h : Heap) (C : Addr) (u : Value) (nm : Str) (R : Result → Shared → Prop) (s : Shared) : Prop :=
  ∀ (h' : Heap) (tk : Nat) (tk0 : Tok) (e dx t1 : Addr), (∀ b o, h.get? b = some o → h'.get? b = some o) → h.objs.size ≤ e → h.objs.size ≤ dx → dx ≠ e → h'.get? e = some (exoO C t1 (some dx)) → h'.Ns1 dx (nmM nm tk0 u) → R (.ok (.ret (.ref e))) { s with heap := h', toks := tk }
/-- the class at C is an own exception class: called with a place it makes one of the name nm -/
structure MkE (prog : Program) (w : World) (K : Frag) (mg : Str → Option Value) (C : Addr) (nm : Str) : Prop where
  call : ∀ (A : Around) (R : Result → Shared → Prop) (h hb0 : Heap) (g : Array GenState) (d : Drawn) (t : Nat) (os : OsState) (u : Value), Room 6 A → Gls prog K mg hb0 → (∀ b o, hb0.get? b = some o → h.get? b = some o) →
    EndE h C u nm R ⟨h, g, d, t, os⟩ → codeAny (model prog w) A (.call (.ref C) ⟨[u], []⟩) R ⟨h, g, d, t, os⟩
  kC : keepIn K (.ref C) = true
  exC : subIn K (.ref C) (.type "BaseException") = some true
  tyC : typeIn K (.ref C) = some (.type "type")
theorem mk_run {C fI : Addr} {nm : Str} {R : Result → Shared → Prop} {h hb0 : Heap} {g : Array GenState} {d : Drawn} {t : Nat} {os : OsState} {u : Value} (T : ExCls K C) (G0 : Gls prog K mg hb0) (kb : ∀ b o, hb0.get? b = some o → h.get? b = some o)
    (iC : findIn K (.ref C) "__init__" = some (some (.ref fI))) (tI : typeIn K (.ref fI) = some (.type "function"))
    (run : ∀ (h1 : Heap) (x t0 : Addr) (R1 : Result → Shared → Prop), (∀ b o, hb0.get? b = some o → h1.get? b = some o) → hb0.get? x = none → h1.get? x = some (exoO C t0 none) → InitEnd h1 C x u nm (R1 (.ok (.ret .none))) ⟨h1, g, d, t, os⟩ →
      codeAny (model prog w) (A.under (.builtin "type.__call__" ⟨[.ref C, u], []⟩)) (.call (.ref fI) ⟨[.ref x, u], []⟩) R1 ⟨h1, g, d, t, os⟩)
    (hq : EndE h C u nm R ⟨h, g, d, t, os⟩) : codeAny (model prog w) A (.call (.ref C) ⟨[u], []⟩) R ⟨h, g, d, t, os⟩ := by
  obtain ⟨nmC, q, N, bs, bm, sn, sub, ab, col, dd, k0, k1, k2, k3, k5, hC, hbm⟩ := T.o.cls
  have G := G0.keeps kb
  have kk : ∀ b o, h.get? b = some o → ((h.push (kdv_tup [u])).push (excO C h.objs.size)).get? b = some o := fun b o e => Heap.get?_push_of_some _ (Heap.get?_push_of_some _ e)
  have hget : ((h.push (kdv_tup [u])).push (excO C h.objs.size)).get? (h.objs.size + 1) = some (excO C h.objs.size) := by heap_get
  refine call_own F.excBase_ValueError (fun Y => refsVE_contains Y bm hbm) (G.kin _ _ hC) (looks_findIn G.kin iC) (fun self => bind_fn G.kin self tI) (by show 1 ≤ sizeLine; rw [sizeLine_eq]; omega) ?_
  refine run _ (h.objs.size + 1) h.objs.size _ (fun b o e => kk _ _ (kb _ _ e)) ?_ hget fun h' tk tk0 dx t1 k' sz dne he hn => ?_
  · cases z : hb0.get? (h.objs.size + 1) with
    | none => rfl
    | some o =>
      exact absurd (Nat.lt_of_lt_of_le (Heap.lt_size (kb _ _ z)) (Nat.le_succ _)) (Nat.lt_irrefl _)
  · refine ⟨rfl, hq h' tk tk0 (h.objs.size + 1) dx t1 (fun b o e => k' b o (Nat.ne_of_lt (Nat.lt_of_lt_of_le (Heap.lt_size e) (Nat.le_succ _))) (kk _ _ e)) (Nat.le_succ _) ?_ dne he hn⟩
    refine Nat.le_trans ?_ sz
    rw [Heap.size_push, Heap.size_push]
    omega
/-- the base class itself -/
theorem mke_base {fd : FuncData} {f C : Addr} {q nm : Str} {j : Nat} {p : Nat → Pos} {cdC : ClassData} (SF : SupFn prog K f C q ["self", "place"] fd) (hb : fd.body = .stmts (initBase nm j p)) (hev : SupEv p)
    (hbind : ∀ s u v, BindsTo s fd ⟨[u, v], []⟩ [("self", u), ("place", v)]) (T : ExCls K C) (iC : findIn K (.ref C) "__init__" = some (some (.ref f))) (hC : clsIn K C = some cdC) (hsub : mroIn K C (.ref C) = some true)
    (hm : ks_superIn K C C "__init__" = some (some (.builtin "ValueError.__init__")))
    (hsuper : mg "super" = none) (htop : (prog.main.scope.names.lookup ("super" : Str)).isSome = false) (hboot : bootBuiltins "super" = some (.type "super"))
    (n1 : findIn K (.ref C) "place" = some none) (n2 : findIn K (.ref C) "name" = some none) : MkE prog w K mg C nm :=
  ⟨fun A R h hb0 g d t os u hr G0 kb hq => mk_run T G0 kb iC SF.ty (fun h1 x t0 R1 k1 xb hx hq1 => gate_base ((Room.make (hr.mono (by omega)) C [u] []).mono (by omega : 2 ≤ 5)) SF hb hev G0 k1 xb (hbind _ _ _) T hx hC hC hsub hm hsuper htop hboot n1 n2 hq1) hq, T.o.kC, T.o.exC, T.o.tyC⟩
theorem mke_sub {fdG fd : FuncData} {fG G f C : Addr} {qG q nmG nm : Str} {jG j : Nat} {pG p : Nat → Pos} {cdG cdC : ClassData} (SG : SupFn prog K fG G qG ["self", "place"] fdG) (hbG : fdG.body = .stmts (initBase nmG jG pG)) (hevG : SupEv pG)
    (SF : SupFn prog K f C q ["self", "place"] fd) (hb : fd.body = .stmts (initSub nm j p)) (hev : SupEv p)
    (hbindG : ∀ s u v, BindsTo s fdG ⟨[u, v], []⟩ [("self", u), ("place", v)]) (hbind : ∀ s u v, BindsTo s fd ⟨[u, v], []⟩ [("self", u), ("place", v)])
    (T : ExCls K C) (iC : findIn K (.ref C) "__init__" = some (some (.ref f))) (hG : clsIn K G = some cdG) (hC : clsIn K C = some cdC) (hsubG : mroIn K C (.ref G) = some true) (hsub : mroIn K C (.ref C) = some true)
    (hmG : ks_superIn K C G "__init__" = some (some (.builtin "ValueError.__init__"))) (hm : ks_superIn K C C "__init__" = some (some (.ref fG)))
    (hsuper : mg "super" = none) (htop : (prog.main.scope.names.lookup ("super" : Str)).isSome = false) (hboot : bootBuiltins "super" = some (.type "super"))
    (n1 : findIn K (.ref C) "place" = some none) (n2 : findIn K (.ref C) "name" = some none) : MkE prog w K mg C nm :=
  ⟨fun A R h hb0 g d t os u hr G0 kb hq => mk_run T G0 kb iC SF.ty (fun h1 x t0 R1 k1 xb hx hq1 => gate_sub ((Room.make (hr.mono (by omega)) C [u] []).mono (by omega : 4 ≤ 5)) SG hbG hevG SF hb hev G0 k1 xb hbindG (hbind _ _ _) T hx hG hC hC hsubG hsub hmG hm hsuper htop hboot n1 n2 hq1) hq, T.o.kC, T.o.exC, T.o.tyC⟩
end

/-! ### raise -/
/-- C(e) as the maker of an exception: its dict -/
def tMkE (C : Addr) (nm : Str) (te : TE) : L2.St → Hp → XK → Prop := fun σ H Q => te σ H fun v H1 => ∀ dx, H1 dx = none → Q (.ref C) (some dx) (upd H1 dx (.xd [("name", .str nm), ("place", v)]))
theorem Mod.gls {prog : Program} {K : Frag} {mg : Str → Option Value} {base : Heap} (M : Mod K mg base) : Gls prog K mg base := ⟨M.kin, M.glob, M.blt, M.nolimit⟩
theorem pmk_err {X : Cx} {C : Addr} {nm x : Str} {e : Expr} {te : TE} {p pos : Pos} (F : MkE X.prog X.w X.K X.mg C nm) (hr : Room 6 X.A) (hg : Gl X x) (hm : X.mg x = some (.ref C)) (he : PE X e te)
    (hdb : (x == ("__debug__" : Str)) = false := by decide) (hst : starEach [e] X.env = (false, eval e X.env) :: starEach [] X.env := by rfl) :
    PMk X (.Call (.Name x p) [e] [] pos) (tMkE C nm te) := by
  intro pins s σ H Q I h
  have ha : PA X [e] (tCons te tNil) := pa_cons he pa_nil hst
  refine wpAny_Call_Name_kw (ld_glob I hg hm ?_ hdb)
  refine PySem.W.callWith_K (h₀ := X.base) I.ok.mod.kin F.kC (thn (ha.run pos pins s σ H (fun vs H1 => match vs with
    | [v] => ∀ dx, H1 dx = none → Q (.ref C) (some dx) (upd H1 dx (.xd [("name", .str nm), ("place", v)]))
    | _ => False) I h) fun us s1 hh => ?_) hst
  obtain ⟨vs, H1, I1, rv, hz⟩ := hh
  refine ⟨I1.kIn, ?_⟩
  cases rv with
  | nil => exact hz.elim
  | cons r0 rr =>
    cases rr with
    | cons _ _ => exact hz.elim
    | nil =>
      rename_i v u
      obtain ⟨h, g, dr, t, os⟩ := s1
      refine wpAny_call (F.call X.A _ h X.base g dr t os u hr (Mod.gls I1.ok.mod) I1.bk fun h' tk tk0 e dx t1 k se sd dne hx hn => ?_)
      have hdn : H1 dx = none := I1.hok.fresh sd
      have hen : H1 e = none := I1.hok.fresh se
      obtain ⟨Gh, g1, g2⟩ := restrict h' fun b => decide (b ≠ e)
      have gk : ∀ b, b ≠ e → Gh.get? b = h'.get? b := fun b hb => g1 b (decide_eq_true hb)
      have ge : Gh.get? e = none := g2 e (by simp)
      have nhe : ∀ {b : Addr} {o : Obj}, h.get? b = some o → b ≠ e := fun z => Nat.ne_of_lt (Nat.lt_of_lt_of_le (Heap.lt_size z) se)
      have hnG : Gh.Ns1 dx (nmM nm tk0 u) := hn.at fun o z => (gk dx dne).trans z
      have J : Inv X pins σ (upd H1 dx (.xd [("name", .str nm), ("place", v)])) ⟨Gh, g, dr, tk, os⟩ :=
        I1.laid (t' := tk) (a := dx) (h' := Gh) (fun b o z => (gk b (nhe z)).trans (k b o z)) sd ⟨nmM nm tk0 u, hnG, fun f => ?_⟩
      · refine ⟨e, exoO C t1 (some dx), _, ⟨Gh, g, dr, tk, os⟩, _, .ref C, some dx, rfl, J, fun b o z => ?_, ge, hx, ⟨rfl, rfl⟩, rfl, rfl, ?_, rfl, I1.bare, raises_own F.exC F.tyC, hz dx hdn⟩
        · by_cases hb : b = e
          · rw [hb, ge] at z; cases z
          · exact (gk b hb).symm.trans z
        · rw [upd_ne (Ne.symm dne)]; exact hen
      · unfold nmM
        rw [lookup_put, lookup_put]
        by_cases h1 : f = "name"
        · simp only [h1, if_true]; exact ⟨tk0, rfl⟩
        · simp only [h1, if_false]
          by_cases h2 : f = "place"
          · simp only [h2, if_true]; exact r0
          · simp only [h2, if_false]; exact True.intro
/-- raise C(e) -/
def cRaise (nm : Str) (c : C) : CS := fun ρ S => .of ρ (c ρ S) fun d S => .err ⟨nm, [("name", .str nm), ("place", d)]⟩ ρ S
theorem ms_raise {X : Cx} {W : WX} {C : Addr} {nm : Str} {e : Expr} {ce : MP.C} {p p2 pos : Pos} (hc : X.calm = true) (tk : Takes X W) (F : MkE X.prog X.w X.K X.mg C nm) (hr : Room 6 X.A) (hg : Gl X nm) (hm : X.mg nm = some (.ref C)) (he : ME X W e ce)
    (hdb : (nm == ("__debug__" : Str)) = false := by decide) (hst : starEach [e] X.env = (false, eval e X.env) :: starEach [] X.env := by rfl) :
    MS X W (.Raise (some (.Call (.Name nm p) [e] [] p2)) none pos) (cRaise nm ce) := by
  refine ⟨(ps_raise hc tk (pmk_err F hr hg hm he.pe hdb hst)).imp fun D σ H h => ?_⟩
  obtain ⟨ρ, φ, S, hE, hs, h⟩ := h
  refine ⟨ρ, φ, S, hE, hs, OkS.from hE h fun d S1 φ1 H1 v q l s r z dx hdx => ?_⟩
  have aw := s.fresh hdx
  refine z φ1 _ σ (.ref C) (some dx) (Le.laid s hdx) (s.laid hdx) ((hE.mono l).mono (Le.laid s hdx)) ⟨C, dx, _, rfl, hm, rfl, upd_same, aw, rfl, ?_⟩
  exact .cons (.str nm) (.cons (r.laid hdx) .nil)
end MP

/-! MP: try with several clauses, each with or without a name. -/
namespace L2
open PySem PySem.Spec PyProof.Rows
abbrev SuT := Addr → Value → Option Addr → TS
abbrev offE (D : Ends) (i : Nat) : Ends := { nx := fun σ' H' => D.nx (σ'.set i none) H', rt := D.rt, bk := fun σ' H' => D.bk (σ'.set i none) H', ct := fun σ' H' => D.ct (σ'.set i none) H' }
/-- what the clauses wish of an exception of the body -/
def wMix (K : PySem.W.Frag) (Wout : WX) (D : Ends) : List (Value × Option Nat × SuT) → WX
  | [] => Wout
  | (c, none, ts) :: r => fun cls d σ H => ∃ b, PySem.W.exmOne K cls c = some b ∧ (b = true → ∀ a, H a = none → ts a cls d D σ H) ∧ (b = false → wMix K Wout D r cls d σ H)
  | (c, some i, ts) :: r => fun cls d σ H => ∃ b, PySem.W.exmOne K cls c = some b ∧ (b = true → ∀ a, H a = none → ts a cls d (offE D i) (σ.set i (some (.ref a))) H) ∧ (b = false → wMix K Wout D r cls d σ H)
inductive HdsM (X : Cx) : List ExceptHandler → List (Value × Option Nat × SuT) → Prop
  | nil : HdsM X [] []
  | cons {x : Str} {c : Value} {ts : SuT} {b₀ : Stmt} {suite : List Stmt} {np pos' : Pos} {hds : List ExceptHandler} {l : List (Value × Option Nat × SuT)} (hc : Names X x c)
      (hsu : ∀ (a : Addr) (oe : Obj) (cls : Value) (d : Option Addr) (pn : List (Addr × Obj)), Zc cls d oe → (∃ vs, oe.data = .fields vs) → PSs (X.suite a ((a, oe) :: pn)) (b₀ :: suite) (ts a cls d)) (r : HdsM X hds l) :
      HdsM X (.ExceptHandler (some (.Name x np)) none (b₀ :: suite) pos' :: hds) ((c, none, ts) :: l)
  | consAs {x n : Str} {i : Nat} {c : Value} {ts : SuT} {b₀ : Stmt} {suite : List Stmt} {np pos' : Pos} {hds : List ExceptHandler} {l : List (Value × Option Nat × SuT)} (hc : Names X x c) (hi : X.N[i]? = some n) (hln : X.env.kindOf n = some .local)
      (hsu : ∀ (a : Addr) (oe : Obj) (cls : Value) (d : Option Addr) (pn : List (Addr × Obj)), Zc cls d oe → (∃ vs, oe.data = .fields vs) → PSs (X.suite a ((a, oe) :: pn)) (b₀ :: suite) (ts a cls d)) (r : HdsM X hds l) :
      HdsM X (.ExceptHandler (some (.Name x np)) (some n) (b₀ :: suite) pos' :: hds) ((c, some i, ts) :: l)
section
variable {X : Cx} {body : List Stmt} {h₀ : ExceptHandler} {hds : List ExceptHandler} {l : List (Value × Option Nat × SuT)} {pos : Pos} {tb : WX → TS} {Wout : WX}
theorem ps_try_mix (hs : X.stack = X.env :: X.outer) (hf : X.env.frame = some X.env.locals) (hN : X.N.Nodup) (tk : Takes X Wout)
    (hb : ∀ (W : WX) (pn : List (Addr × Obj)) (xe : Value → Shared → Prop), Takes (X.tr pn xe) W → PassesOwn (model X.prog X.w) X.A X.env xe → PSs (X.tr pn xe) body (tb W))
    (hh : HdsM X (h₀ :: hds) l) : PS X (.Try body (h₀ :: hds) [] [] pos) (fun D σ H => tb (wMix X.K Wout D l) D σ H) := by
  refine ⟨fun pins s σ H D I h => ?_⟩
  have ok := I.ok
  have hfr : X.A.frames = some (X.env :: X.outer) := by rw [ok.frames, hs]
  refine wpAny_Try_except ?_
  refine wpAny_mono ((hb (wMix X.K Wout D l) (X.pn ++ pins) (fun e s₁ => wpAny (model X.prog X.w) X.A (noteFrame e X.env) (fun _ s₂ => wpAny (model X.prog X.w) X.A (setFlight e none) (fun _ s₃ =>
    wpAny (model X.prog X.w) X.A (handleBy e X.env (h₀ :: hds)) (SP X pins D) X.xe s₃) X.xe s₂) X.xe s₁) (fun u s' xx => ?_) PassesOwn.looking).run [] s σ H D (I.toTry _) h) (fun f s1 hsp => ?_) (fun e s1 he => he)
  · -- the catch
    obtain ⟨a, B, sI, pins', σ', H', cls, d, rfl, J', nb, up, sky, na, os, ag, w⟩ := xx
    have J : Inv X pins σ' H' sI := J'.ofTry ok
    have sky' : Sky B (X.env :: X.outer) a (Zc cls d) X.env.locals s'.heap := by rw [← hs]; exact sky
    show wpAny (model X.prog X.w) X.A (noteFrame (.ref a) X.env) _ _ _
    refine Sky.land Zc.steady hfr hf sky' fun h3 fl3 up3 => ?_
    have J3 : Inv X pins σ' H' { s' with heap := h3 } := J.landed nb fl3.1 (up.trans up3) os ag
    obtain ⟨oe3, vs3, he3, hz3, hd3⟩ := fl3.there
    have notFr : ∀ {h : Heap} {o : Obj} {vs : Array Value}, h.FunFrames B (X.env :: X.outer) → h.get? a = some o → o.data = .fields vs → a ∉ frs (X.env :: X.outer) := fun {h o vs} ff e dd hm => by
      obtain ⟨_, o', e', hnf⟩ := ff.mem hm
      rw [e] at e'; cases e'
      exact hnf _ dd
    have nfr := notFr fl3.2.2.1 he3 hd3
    have nL : a ≠ X.env.locals := fun z => nfr (List.mem_filterMap.mpr ⟨X.env, List.mem_cons_self, by rw [hf, z]⟩)
    have nF : a ∉ X.fs := fun hm => by
      obtain ⟨e, he, q⟩ := List.mem_filterMap.mp hm
      exact nfr (List.mem_filterMap.mpr ⟨e, List.mem_cons_of_mem _ he, q⟩)
    have S3 := J3.suite he3 hd3 na nL nF
    have LT : PySem.W.Looks (model X.prog X.w) h3 (typeOf (.ref a)) cls := fun A Q E s k q => wpAny_typeOf_ref (k _ _ he3) (by rw [hz3.1]; exact q)
    have testOf : ∀ {x : Str} {c : Value} {np : Pos}, Names X x c → ∀ {Q : Value → Shared → Prop} {E : Value → Shared → Prop}, Q c { s' with heap := h3 } → wpAny (model X.prog X.w) (X.A.mark (some (.ref a))) (eval (.Name x np) X.env) Q E { s' with heap := h3 } := fun {x c np} hc {Q E} q => by
      obtain ⟨hg, hdbg, hm | ⟨hm, hv, hnn⟩⟩ := hc
      · exact ld_glob (X := X.suite a ((a, oe3) :: (X.pn ++ pins))) S3 hg hm q hdbg
      · exact ld_blt (X := X.suite a ((a, oe3) :: (X.pn ++ pins))) S3 hg hm hv q hnn hdbg
    have go : ∀ {hds' : List ExceptHandler} {l' : List (Value × Option Nat × SuT)}, HdsM X hds' l' → wMix X.K Wout D l' cls d σ' H' →
        wpAny (model X.prog X.w) X.A (handleBy (.ref a) X.env hds') (SP X pins D) X.xe { s' with heap := h3 } := by
      intro hds' l' hk
      induction hk with
      | nil =>
        intro w
        refine wpAny_handleBy_nil ?_
        obtain ⟨k1, k2, k3, oe, vs, T, oT, ts', he, hz, hd, h1, hr⟩ := id fl3
        unfold PySem.passOn
        refine wpAny_bind (wpAny_field he hd h1 ?_)
        rw [if_neg (show ¬ ((Value.ref T == Value.none) = true) from by simp)]
        have fin : wpAny (model X.prog X.w) X.A (setFlight (.ref a) X.env.frame) (fun _ s4 => wpAny (model X.prog X.w) X.A (throw (.ref a) : Sem Flow) (SP X pins D) X.xe s4) X.xe { s' with heap := h3 } := by
          rw [hf]
          refine HandSPX.setFlight_upZ fl3 fun h4 hh4 up4 => wpAny_throw (tk _ _ ?_)
          exact ⟨a, B, sI, pins, σ', H', cls, d, rfl, J, nb, (up.trans up3).trans up4, .inr (.inr (by rw [hs]; exact hh4)), na, os, ag, w⟩
        first
          | exact wpAny_bind (wpAny_pure (wpAny_bind fin))
          | exact wpAny_bind fin
      | @cons x c ts b₀ suite np pos' hds2 l2 hc hsu r ih =>
        intro w
        obtain ⟨b, hb1, hyes, hno⟩ := w
        refine wpAny_handleBy_cons (codeAny_handlers_test ?_) (by intro q; cases q)
        have LM := PySem.W.exm_one (M := model X.prog X.w) (J3.kIn) LT hb1
        refine testOf hc (LM.here ?_)
        cases b with
        | true =>
          refine codeAny_handlers_suite ?_
          refine HandSPX.lands_againZ fl3 fun h4 fl4 up4 => ?_
          have J4 : Inv X pins σ' H' { s' with heap := h4 } := J.landed nb fl4.1 ((up.trans up3).trans up4) os ag
          obtain ⟨oe4, vs4, he4, hz4, hd4⟩ := fl4.there
          have S4 := J4.suite he4 hd4 na nL nF
          refine wpAny_mono ((hsu a oe4 cls d (X.pn ++ pins) hz4 ⟨_, hd4⟩).run [] _ _ H' _ S4 (hyes rfl a na)) (fun f s6 hsp => ?_) (fun _ _ z => False.elim z)
          cases f with
          | next =>
            obtain ⟨σ6, H6, S6, q6⟩ := hsp
            exact ⟨_, _, S6.unsuite ok, q6⟩
          | brk =>
            obtain ⟨σ6, H6, S6, q6⟩ := hsp
            exact ⟨_, _, S6.unsuite ok, q6⟩
          | cont =>
            obtain ⟨σ6, H6, S6, q6⟩ := hsp
            exact ⟨_, _, S6.unsuite ok, q6⟩
          | ret u =>
            obtain ⟨v6, σ6, H6, S6, r6, q6⟩ := hsp
            exact ⟨_, _, _, S6.unsuite ok, r6, q6⟩
        | false =>
          show wpAny _ X.A (handleBy (.ref a) X.env hds2) _ _ _
          exact ih (hno rfl)
      | @consAs x n i c ts b₀ suite np pos' hds2 l2 hc hi hln hsu r ih =>
        intro w
        obtain ⟨b, hb1, hyes, hno⟩ := w
        have hloc : Loc X.env.scope n := .inl hln
        refine wpAny_handleBy_cons (codeAny_handlers_test ?_) (by intro q; cases q)
        have LM := PySem.W.exm_one (M := model X.prog X.w) (J3.kIn) LT hb1
        refine testOf hc (LM.here ?_)
        cases b with
        | true =>
          refine codeAny_handlers_suite_as ?_
          refine HandSPX.lands_againZ fl3 fun h4 fl4 up4 => ?_
          have J4 : Inv X pins σ' H' { s' with heap := h4 } := J.landed nb fl4.1 ((up.trans up3).trans up4) os ag
          obtain ⟨oe4, vs4, he4, hz4, hd4⟩ := fl4.there
          have S4 := J4.suite he4 hd4 na nL nF
          refine store_ok (X := X.suite a ((a, oe4) :: (X.pn ++ pins))) (v := .ref a) S4 hN hi hloc rfl (fun s5 S5 => ?_) (.inr hln)
          refine wpAny_mono ((hsu a oe4 cls d (X.pn ++ pins) hz4 ⟨_, hd4⟩).run [] s5 _ H' _ S5 (hyes rfl a na)) (fun f s6 hsp => ?_) (fun _ _ z => False.elim z)
          have end_ : ∀ {σ6 : L2.St} {H6 : Hp} {Q : Shared → Prop}, Inv (X.suite a ((a, oe4) :: (X.pn ++ pins))) [] σ6 H6 s6 → (∀ s7, Inv X pins (σ6.set i none) H6 s7 → Q s7) →
              wpAny (model X.prog X.w) X.A (do bindName X.env n .none; unbindBehindTheSuite X.env n pos') (fun _ s7 => Q s7) X.xe s6 := fun {σ6 H6 Q} S6 hq => gone_ok (S6.unsuite ok) hN hi hln hq
          cases f with
          | next =>
            obtain ⟨σ6, H6, S6, q6⟩ := hsp
            exact end_ S6 fun s7 J7 => ⟨_, _, J7, q6⟩
          | brk =>
            obtain ⟨σ6, H6, S6, q6⟩ := hsp
            exact end_ S6 fun s7 J7 => ⟨_, _, J7, q6⟩
          | cont =>
            obtain ⟨σ6, H6, S6, q6⟩ := hsp
            exact end_ S6 fun s7 J7 => ⟨_, _, J7, q6⟩
          | ret u =>
            obtain ⟨v6, σ6, H6, S6, r6, q6⟩ := hsp
            exact end_ S6 fun s7 J7 => ⟨_, _, _, J7, r6, q6⟩
        | false =>
          show wpAny _ X.A (handleBy (.ref a) X.env hds2) _ _ _
          exact ih (hno rfl)
    exact go hh w
  · cases f with
    | next =>
      obtain ⟨σ', H', J', q⟩ := hsp
      exact wpAny_execs_nil ⟨σ', H', J'.ofTry ok, q⟩
    | brk =>
      obtain ⟨σ', H', J', q⟩ := hsp
      exact ⟨σ', H', J'.ofTry ok, q⟩
    | cont =>
      obtain ⟨σ', H', J', q⟩ := hsp
      exact ⟨σ', H', J'.ofTry ok, q⟩
    | ret u =>
      obtain ⟨v, σ', H', J', r, q⟩ := hsp
      exact ⟨v, σ', H', J'.ofTry ok, r, q⟩
end
end L2
namespace MP
open PySem PySem.Spec PyProof.Rows L2
theorem RX.mono {K : PySem.W.Frag} {mg : Str → Option Value} {φ φ' : Phi} {H H' : Hp} {x : Exn} {cls : Value} {d : Option Addr} (e : Le φ H φ' H') (h : RX K mg φ H x cls d) : RX K mg φ' H' x cls d := by
  obtain ⟨a, dx, vs, e1, e2, e3, e4, e5, e6, e7⟩ := h
  obtain ⟨h1, h2⟩ := e.stay _ _ e4 e5
  exact ⟨a, dx, vs, e1, e2, e3, h1, h2, e6, RelL.mono e e7⟩
/-- a caught exception: its name's slot, its place, its class and dict -/
structure XI where
  i : Option Nat
  a : Addr
  cls : Value
  d : Option Addr
def Held (K : PySem.W.Frag) (mg : Str → Option Value) (J : XI) (x : Exn) (φ : Phi) (H : Hp) (σ : L2.St) : Prop := RX K mg φ H x J.cls J.d ∧ ∀ k, J.i = some k → σ[k]? = some (some (.ref J.a))
theorem Held.mono {K : PySem.W.Frag} {mg : Str → Option Value} {J : XI} {x : Exn} {φ φ' : Phi} {H H' : Hp} {σ : L2.St} (h : Held K mg J x φ H σ) (e : Le φ H φ' H') : Held K mg J x φ' H' σ := ⟨h.1.mono e, h.2⟩
structure MEx (Y : Cx) (J : XI) (e : Expr) (c : Exn → C) : Prop where
  pe : PE Y e (fun σ H Q => ∃ x ρ φ S, RE Y.K φ H ρ σ ∧ RS Y.K φ H S ∧ Held Y.K Y.mg J x φ H σ ∧ Ok Y.K Y.mg (Rel Y.K) φ H (fun _ _ _ => False) Q (c x ρ S))
structure MTx (Y : Cx) (J : XI) (e : Expr) (c : Exn → CT) : Prop where
  pt : PT Y e (fun σ H Q => ∃ x ρ φ S, RE Y.K φ H ρ σ ∧ RS Y.K φ H S ∧ Held Y.K Y.mg J x φ H σ ∧ Ok Y.K Y.mg eqB φ H (fun _ _ _ => False) Q (c x ρ S))
structure MAx (Y : Cx) (J : XI) (es : List Expr) (c : Exn → CA) : Prop where
  pa : PA Y es (fun σ H Q => ∃ x ρ φ S, RE Y.K φ H ρ σ ∧ RS Y.K φ H S ∧ Held Y.K Y.mg J x φ H σ ∧ Ok Y.K Y.mg (RelL Y.K) φ H (fun _ _ _ => False) Q (c x ρ S))
  len : ∀ x ρ S ds S', c x ρ S = .ok ds S' → ds.length = es.length
structure MSx (Y : Cx) (J : XI) (st : Stmt) (c : Exn → CS) : Prop where
  ps : PS Y st (fun D σ H => ∃ x ρ φ S, RE Y.K φ H ρ σ ∧ RS Y.K φ H S ∧ Held Y.K Y.mg J x φ H σ ∧ OkS Y.K Y.mg φ H W0 D (c x ρ S))
structure MSsx (Y : Cx) (J : XI) (st : List Stmt) (c : Exn → CS) : Prop where
  ps : PSs Y st (fun D σ H => ∃ x ρ φ S, RE Y.K φ H ρ σ ∧ RS Y.K φ H S ∧ Held Y.K Y.mg J x φ H σ ∧ OkS Y.K Y.mg φ H W0 D (c x ρ S))
section
variable {Y : Cx} {J : XI} {e a b : Expr} {es : List Expr} {pos : Pos}
theorem mx_lift {c : C} (h : ME Y W0 e c) : MEx Y J e (fun _ => c) := ⟨h.pe.imp fun σ H Q z => by
  obtain ⟨x, ρ, φ, S, h1, h2, _, h3⟩ := z
  exact ⟨ρ, φ, S, h1, h2, h3⟩⟩
theorem mtx_lift {c : CT} (h : MT Y W0 e c) : MTx Y J e (fun _ => c) := ⟨h.pt.imp fun σ H Q z => by
  obtain ⟨x, ρ, φ, S, h1, h2, _, h3⟩ := z
  exact ⟨ρ, φ, S, h1, h2, h3⟩⟩
theorem max_nil : MAx Y J [] (fun _ => caNil) := ⟨pa_nil.imp fun σ H Q h => by
    obtain ⟨x, ρ, φ, S, he, hs, hx, h⟩ := h
    exact h φ H [] (Le.refl _ _) hs .nil, fun x ρ S ds S' h => by cases h; rfl⟩
theorem max_cons {a : Exn → C} {b : Exn → CA} (ha : MEx Y J e a) (hb : MAx Y J es b) (hs : starEach (e :: es) Y.env = (false, eval e Y.env) :: starEach es Y.env := by rfl) : MAx Y J (e :: es) (fun x => caCons (a x) (b x)) := by
  refine ⟨(pa_cons ha.pe hb.pa hs).imp fun σ H Q h => ?_, fun x ρ S ds S' h => ?_⟩
  · obtain ⟨x, ρ, φ, S, he, hs, hx, h⟩ := h
    refine ⟨x, ρ, φ, S, he, hs, hx, h.step fun d S1 φ1 H1 v q l s r h => ?_⟩
    refine ⟨x, ρ, φ1, S1, he.mono l, s, hx.mono l, h.step fun ds S2 φ2 H2 vs q2 l2 s2 r2 h => ?_⟩
    exact h φ2 H2 _ (Le.refl _ _) s2 (.cons (r.mono l2) r2)
  · unfold caCons at h
    cases q : a x ρ S with
    | ok d S1 =>
      rw [q, R.bind_ok] at h
      cases q2 : b x ρ S1 with
      | ok ds2 S2 =>
        rw [q2, R.bind_ok] at h
        injection h with h1 h2
        rw [← h1]
        simp [hb.len _ _ _ _ _ q2]
      | err x S2 => rw [q2] at h; cases h
      | bad => rw [q2] at h; cases h
    | err x S1 => rw [q] at h; cases h
    | bad => rw [q] at h; cases h
theorem mx_tup {c : Exn → CA} {k : Nat} (h : MAx Y J es c) (hz : es.length ≤ 1000 := by decide) : MEx Y J (.Tuple es k pos) (fun x => cTup (c x)) := by
  refine ⟨(pe_tup h.pa).imp fun σ H Q z => ?_⟩
  obtain ⟨x, ρ, φ, S, hE, hs, hx, z⟩ := z
  unfold tTup
  refine ⟨x, ρ, φ, S, hE, hs, hx, z.step fun ds S1 φ1 H1 vs q l s r z => ?_⟩
  have hl : vs.length ≤ sizeLine := by rw [← r.length, h.len _ _ _ _ _ q, sizeLine_eq]; omega
  refine ⟨hl, fun p hp => ?_⟩
  exact z φ1 _ _ (Le.laid s hp) (s.laid hp) (.tup hl (.inl ⟨.inl upd_same, s.fresh hp⟩) (r.laid hp))
theorem mx_op {op : Operator} {g : G2} {ca cb : Exn → C} (ho : OS Y (binaryOp op) g) (ha : MEx Y J a ca) (hb : MEx Y J b cb) : MEx Y J (.BinOp a op b pos) (fun x => cB g (ca x) (cb x)) := by
  obtain ⟨r, hr, k⟩ := ho
  refine ⟨(pe_op hr ha.pe hb.pe).imp fun σ H Q h => ?_⟩
  obtain ⟨x, ρ, φ, S, he, hs, hx, h⟩ := h
  refine ⟨x, ρ, φ, S, he, hs, hx, h.step fun d S1 φ1 H1 v q l s rx h => ?_⟩
  refine ⟨x, ρ, φ1, S1, he.mono l, s, hx.mono l, h.step fun d2 S2 φ2 H2 v2 q2 l2 s2 ry h => ?_⟩
  exact k W0 σ φ2 H2 S2 d d2 v v2 Q s2 (rx.mono l2) ry h
theorem mx_cmp {op : CmpOp} {g : G2} {ca cb : Exn → C} (ho : OS Y (compareOp op) g) (ha : MEx Y J a ca) (hb : MEx Y J b cb) (hm : behindInMarks op b = false) : MEx Y J (.Compare a [op] [b] pos) (fun x => cB g (ca x) (cb x)) := by
  obtain ⟨r, hr, k⟩ := ho
  refine ⟨(pe_cmpR hr ha.pe hb.pe hm).imp fun σ H Q h => ?_⟩
  obtain ⟨x, ρ, φ, S, he, hs, hx, h⟩ := h
  refine ⟨x, ρ, φ, S, he, hs, hx, h.step fun d S1 φ1 H1 v q l s rx h => ?_⟩
  refine ⟨x, ρ, φ1, S1, he.mono l, s, hx.mono l, h.step fun d2 S2 φ2 H2 v2 q2 l2 s2 ry h => ?_⟩
  exact k W0 σ φ2 H2 S2 d d2 v v2 Q s2 (rx.mono l2) ry h
/-- e.f of the caught exception -/
def cXf (errs : List Str) (x : Exn) (f : Str) : C := fun _ S => if x.c ∈ errs then match x.fs.lookup f with
  | some d => .ok d S
  | none => .bad else .bad
theorem lookup_rel {K : PySem.W.Frag} {φ : Phi} {H : Hp} {f : Str} {d : D} : ∀ {fs : List (Str × D)} {vs : List (Str × V)}, fs.map (·.1) = vs.map (·.1) → RelL K φ H (fs.map (·.2)) (vs.map (·.2)) → fs.lookup f = some d → ∃ v, vs.lookup f = some v ∧ Rel K φ H d v
  | [], _, _, _, h => by simp at h
  | (y, z) :: fs, [], e, _, _ => by simp at e
  | (y, z) :: fs, (y', v) :: vs, e, r, h => by
    simp only [List.map_cons, List.cons.injEq] at e r
    obtain ⟨e1, e2⟩ := e
    subst e1
    cases r with
    | cons r1 r2 =>
      rw [List.lookup] at h ⊢
      cases q : f == y with
      | true =>
        simp only [q] at h ⊢
        cases h
        exact ⟨v, rfl, r1⟩
      | false =>
        simp only [q] at h ⊢
        exact lookup_rel e2 r2 h
/-- every class of the list can be read of -/
def XfOk (K : PySem.W.Frag) (mg : Str → Option Value) (errs : List Str) : Prop := ∀ c ∈ errs, ∀ C, mg c = some (.ref C) → XfC K C ∧ PySem.W.findIn K (.ref C) "place" = some none ∧ PySem.W.findIn K (.ref C) "name" = some none
end
section
variable {X : Cx} {a : Addr} {oe : Obj} {cls : Value} {d : Option Addr} {pn : List (Addr × Obj)} {i : Nat} {n f : Str} {p pos : Pos} {errs : List Str}
theorem mx_fld (XF : XfOk X.K X.mg errs) (hf : f = "place" ∨ f = "name") (hz : Zc cls d oe) (ho : ∃ vs, oe.data = .fields vs) (hN : X.N[i]? = some n) (hv : Vis X.env.scope n) (hd : (n == ("__debug__" : Str)) = false := by decide) (hcd : (n == ("__classdict__" : Str)) = false := by decide)
    (hb : attributeBase (.Name n p) f X.env (eval (.Name n p) X.env) = eval (.Name n p) X.env := by rfl) :
    MEx (X.suite a ((a, oe) :: pn)) ⟨some i, a, cls, d⟩ (.Attribute (.Name n p) f pos) (fun x => cXf errs x f) := by
  have hvar : PE (X.suite a ((a, oe) :: pn)) (.Name n p) (tVar i) := pe_var (i := i) hN hv hd hcd
  by_cases hC : ∃ c C, c ∈ errs ∧ X.mg c = some (.ref C) ∧ cls = .ref C
  · obtain ⟨c, C, h1, h2, rfl⟩ := hC
    obtain ⟨xf, n1, n2⟩ := XF c h1 C h2
    have hno : PySem.W.findIn X.K (.ref C) f = some none := by
      rcases hf with rfl | rfl
      · exact n1
      · exact n2
    refine ⟨(pe_xf xf hno hz ho hvar hb).imp fun σ H Q h => ?_⟩
    obtain ⟨x, ρ, φ, S, hE, hs, ⟨hx, hσ⟩, h⟩ := h
    obtain ⟨aC, dx, vs, e1, e2, e3, e4, e5, e6, e7⟩ := hx
    refine ⟨.ref a, hσ i rfl, rfl, rfl, dx, vs, ?_⟩
    unfold cXf at h
    by_cases hc : x.c ∈ errs
    · simp only [hc, if_true] at h
      cases q : x.fs.lookup f with
      | none => simp only [q] at h; exact h.elim
      | some dv =>
        simp only [q] at h
        obtain ⟨v, hv1, hv2⟩ := lookup_rel e6 e7 q
        exact ⟨v, e3, e4, hv1, h φ H v (Le.refl _ _) hs hv2⟩
    · simp only [hc, if_false] at h
      exact h.elim
  · refine ⟨⟨fun pins s σ H Q I h => ?_⟩⟩
    obtain ⟨x, ρ, φ, S, hE, hs, ⟨hx, hσ⟩, h⟩ := h
    obtain ⟨aC, dx, vs, e1, e2, _⟩ := hx
    unfold cXf at h
    by_cases hc : x.c ∈ errs
    · exact absurd ⟨x.c, aC, hc, e2, e1⟩ hC
    · simp only [hc, if_false] at h
      exact h.elim
end
section
variable {Y : Cx} {J : XI} {e : Expr} {st : Stmt} {rest : List Stmt} {pos : Pos}
theorem msx_lift {c : CS} (h : MS Y W0 st c) : MSx Y J st (fun _ => c) := ⟨h.ps.imp fun D σ H z => by
  obtain ⟨x, ρ, φ, S, h1, h2, _, h3⟩ := z
  exact ⟨ρ, φ, S, h1, h2, h3⟩⟩
theorem msx_ret {c : Exn → C} (he : MEx Y J e c) : MSx Y J (.Return (some e) pos) (fun x => cRet (c x)) := by
  refine ⟨(ps_ret he.pe).imp fun D σ H h => ?_⟩
  obtain ⟨x, ρ, φ, S, hE, hs, hx, h⟩ := h
  exact ⟨x, ρ, φ, S, hE, hs, hx, OkS.from (W := W0) hE h fun d S1 φ1 H1 v q l s r z => z φ1 H1 v (Le.refl _ _) s r⟩
/-- n = e, n another local -/
theorem msx_set {c : Exn → C} (i : Nat) {y : Str} {pos' : Pos} (hN : Y.N.Nodup) (hi : Y.N[i]? = some y) (hx : Loc Y.env.scope y) (he : MEx Y J e c) (hs : swapsWith e (some (.Name y pos')) pos.line Y.env = pure false := by rfl) (hf : Y.fn y = true ∨ Y.env.scope.names.lookup y = some .local := by first | exact .inl rfl | exact .inr rfl | assumption) :
    MSx Y J (.Assign [.Name y pos'] e pos) (fun x => cAsg (tgN i) (c x)) := by
  refine ⟨(ps_set hN hi hx he.pe hs hf).imp fun D σ H h => ?_⟩
  obtain ⟨x, ρ, φ, S, hE, hs, hxx, h⟩ := h
  refine ⟨x, ρ, φ, S, hE, hs, hxx, OkS.from (W := W0) hE h fun d S1 φ1 H1 v q l s r z => ?_⟩
  exact z φ1 H1 _ (Le.refl _ _) s ((hE.mono l).set r i)
theorem mssx_one {c : Exn → CS} (h : MSx Y J st c) : MSsx Y J [st] c := ⟨pss_one h.ps⟩
end

/-! ### try -/
def RSt.off (i : Nat) : RSt → RSt
  | .nx ρ S => .nx (ρ.set i none) S
  | .brk ρ S => .brk (ρ.set i none) S
  | .cnt ρ S => .cnt (ρ.set i none) S
  | .ret d S => .ret d S
  | _ => .bad
def RSt.noerr : RSt → RSt
  | .err _ _ _ => .bad
  | r => r
@[simp] theorem RSt.noerr_nx (ρ : Ro) (S : Sto) : (RSt.nx ρ S).noerr = .nx ρ S := (rfl)
@[simp] theorem RSt.noerr_ret (d : D) (S : Sto) : (RSt.ret d S).noerr = .ret d S := (rfl)
@[simp] theorem RSt.noerr_brk (ρ : Ro) (S : Sto) : (RSt.brk ρ S).noerr = .brk ρ S := (rfl)
@[simp] theorem RSt.noerr_cnt (ρ : Ro) (S : Sto) : (RSt.cnt ρ S).noerr = .cnt ρ S := (rfl)
@[simp] theorem RSt.off_nx (i : Nat) (ρ : Ro) (S : Sto) : (RSt.nx ρ S).off i = .nx (ρ.set i none) S := (rfl)
@[simp] theorem RSt.off_ret (i : Nat) (d : D) (S : Sto) : (RSt.ret d S).off i = .ret d S := (rfl)
@[simp] theorem RSt.off_brk (i : Nat) (ρ : Ro) (S : Sto) : (RSt.brk ρ S).off i = .brk (ρ.set i none) S := (rfl)
@[simp] theorem RSt.off_cnt (i : Nat) (ρ : Ro) (S : Sto) : (RSt.cnt ρ S).off i = .cnt (ρ.set i none) S := (rfl)
def hdL (errs : List Str) (sub : Str → Str → Bool) : List (Str × Option Nat × (Exn → CS)) → Exn → CS
  | [], x => fun ρ S => .err x ρ S
  | (c, none, s) :: r, x => fun ρ S => if x.c ∈ errs then if sub x.c c then (s x ρ S).noerr else hdL errs sub r x ρ S else .bad
  | (c, some i, s) :: r, x => fun ρ S => if x.c ∈ errs then if sub x.c c then (if i < ρ.length then (s x (ρ.set i none) S).off i else .bad) else hdL errs sub r x ρ S else .bad
def cTry (errs : List Str) (sub : Str → Str → Bool) (b : CS) (hs : List (Str × Option Nat × (Exn → CS))) : CS := fun ρ S => match b ρ S with
  | .err x ρ' S' => hdL errs sub hs x ρ' S'
  | r => r
/-- the table of what is over what is right -/
def SubOk (K : PySem.W.Frag) (mg : Str → Option Value) (errs : List Str) (sub : Str → Str → Bool) : Prop := ∀ c ∈ errs, ∀ h ∈ errs, ∀ C D, mg c = some (.ref C) → mg h = some (.ref D) → PySem.W.exmOne K (.ref C) (.ref D) = some (sub c h)
/-- nothing is let out of a suite -/
def noErr (c : Exn → CS) : Prop := True
inductive HdsX (X : Cx) (errs : List Str) : List ExceptHandler → List (Str × Option Nat × (Exn → CS)) → Prop
  | nil : HdsX X errs [] []
  | cons {x : Str} {C : Addr} {c : Exn → CS} {b₀ : Stmt} {suite : List Stmt} {np pos' : Pos} {hds : List ExceptHandler} {l : List (Str × Option Nat × (Exn → CS))} (hg : Gl X x) (hm : X.mg x = some (.ref C)) (he : x ∈ errs) (hd : (x == ("__debug__" : Str)) = false)
      (hsu : ∀ (a : Addr) (oe : Obj) (cls : Value) (d : Option Addr) (pn : List (Addr × Obj)), Zc cls d oe → (∃ vs, oe.data = .fields vs) → MSsx (X.suite a ((a, oe) :: pn)) ⟨none, a, cls, d⟩ (b₀ :: suite) c) (r : HdsX X errs hds l) :
      HdsX X errs (.ExceptHandler (some (.Name x np)) none (b₀ :: suite) pos' :: hds) ((x, none, c) :: l)
  | consAs {x n : Str} {i : Nat} {C : Addr} {c : Exn → CS} {b₀ : Stmt} {suite : List Stmt} {np pos' : Pos} {hds : List ExceptHandler} {l : List (Str × Option Nat × (Exn → CS))} (hg : Gl X x) (hm : X.mg x = some (.ref C)) (he : x ∈ errs) (hd : (x == ("__debug__" : Str)) = false)
      (hi : X.N[i]? = some n) (hln : X.env.kindOf n = some .local)
      (hsu : ∀ (a : Addr) (oe : Obj) (cls : Value) (d : Option Addr) (pn : List (Addr × Obj)), Zc cls d oe → (∃ vs, oe.data = .fields vs) → MSsx (X.suite a ((a, oe) :: pn)) ⟨some i, a, cls, d⟩ (b₀ :: suite) c) (r : HdsX X errs hds l) :
      HdsX X errs (.ExceptHandler (some (.Name x np)) (some n) (b₀ :: suite) pos' :: hds) ((x, some i, c) :: l)
theorem RE.unset {K : PySem.W.Frag} {φ : Phi} {H : Hp} {ρ : Ro} {σ : L2.St} (h : RE K φ H ρ σ) (i : Nat) (v : Option V) : RE K φ H (ρ.set i none) (σ.set i v) := by
  refine ⟨by simpa using h.1, fun j d q => ?_⟩
  by_cases e : i = j
  · subst e
    have hl : i < ρ.length := by
      have := (List.getElem?_eq_some_iff.mp q).1
      simpa using this
    rw [List.getElem?_set_self hl] at q
    cases q
  · rw [List.getElem?_set_ne e] at q
    rw [List.getElem?_set_ne e]
    exact h.2 j d q
/-- the reading of a suite -/
def rdX (X : Cx) (i : Option Nat) (c : Exn → CS) : SuT := fun a cls d D σ H => ∃ x ρ φ S, RE X.K φ H ρ σ ∧ RS X.K φ H S ∧ Held X.K X.mg ⟨i, a, cls, d⟩ x φ H σ ∧ OkS X.K X.mg φ H W0 D (c x ρ S)
theorem OkS.off {K : PySem.W.Frag} {mg : Str → Option Value} {φ : Phi} {H : Hp} {W : WX} {D : Ends} {i : Nat} {r : RSt} (h : OkS K mg φ H W D (r.off i)) : OkS K mg φ H W0 (offE D i) r := by
  cases r with
  | nx ρ S => exact fun φ' H' σ' l s re => h φ' H' _ l s (re.unset i none)
  | brk ρ S => exact fun φ' H' σ' l s re => h φ' H' _ l s (re.unset i none)
  | cnt ρ S => exact fun φ' H' σ' l s re => h φ' H' _ l s (re.unset i none)
  | ret d S => exact h
  | err x ρ S => exact h.elim
  | bad => exact h
theorem OkS.noerr {K : PySem.W.Frag} {mg : Str → Option Value} {φ : Phi} {H : Hp} {W : WX} {D : Ends} {r : RSt} (h : OkS K mg φ H W D r.noerr) : OkS K mg φ H W0 D r := by
  cases r <;> first | exact h | exact h.elim
section
variable {X : Cx} {W : WX} {body : List Stmt} {h₀ : ExceptHandler} {hds : List ExceptHandler} {l : List (Str × Option Nat × (Exn → CS))} {errs : List Str} {sub : Str → Str → Bool} {pos : Pos} {cb : CS}
theorem hds_mix (SU : SubOk X.K X.mg errs sub) (h : HdsX X errs hds l) : ∃ l' : List (Value × Option Nat × SuT), HdsM X hds l' ∧ ∀ (D : Ends) (x : Exn) (ρ : Ro) (φ : Phi) (S : Sto) (σ : L2.St) (H : Hp) (cls : Value) (d : Option Addr),
    RE X.K φ H ρ σ → RS X.K φ H S → RX X.K X.mg φ H x cls d → OkS X.K X.mg φ H W D (hdL errs sub l x ρ S) → wMix X.K W D l' cls d σ H := by
  induction h with
  | nil => exact ⟨[], .nil, fun D x ρ φ S σ H cls d re rs rx h => h φ H σ cls d (Le.refl _ _) rs re rx⟩
  | @cons y C c b₀ suite np pos' hds l hg hm he hd hsu r ih =>
    obtain ⟨l', h1, h2⟩ := ih
    refine ⟨(.ref C, none, rdX X none c) :: l', .cons ⟨hg, hd, .inl hm⟩ (fun a oe cls d pn hz ho => (hsu a oe cls d pn hz ho).ps) h1, fun D x ρ φ S σ H cls d re rs rx h => ?_⟩
    obtain ⟨aC, dx, vs, e1, e2, e3⟩ := id rx
    unfold hdL at h
    by_cases hx : x.c ∈ errs
    · simp only [hx, if_true] at h
      refine ⟨sub x.c y, by rw [e1]; exact SU _ hx _ he _ _ e2 hm, fun hb a na => ?_, fun hb => ?_⟩
      · simp only [hb, if_true] at h
        exact ⟨x, ρ, φ, S, re, rs, ⟨rx, fun k z => by cases z⟩, OkS.noerr h⟩
      · simp only [hb, Bool.false_eq_true, if_false] at h
        exact h2 D x ρ φ S σ H cls d re rs rx h
    · simp only [hx, if_false] at h
      exact h.elim
  | @consAs y n i C c b₀ suite np pos' hds l hg hm he hd hi hln hsu r ih =>
    obtain ⟨l', h1, h2⟩ := ih
    refine ⟨(.ref C, some i, rdX X (some i) c) :: l', .consAs ⟨hg, hd, .inl hm⟩ hi hln (fun a oe cls d pn hz ho => (hsu a oe cls d pn hz ho).ps) h1, fun D x ρ φ S σ H cls d re rs rx h => ?_⟩
    obtain ⟨aC, dx, vs, e1, e2, e3⟩ := id rx
    unfold hdL at h
    by_cases hx : x.c ∈ errs
    · simp only [hx, if_true] at h
      refine ⟨sub x.c y, by rw [e1]; exact SU _ hx _ he _ _ e2 hm, fun hb a na => ?_, fun hb => ?_⟩
      · simp only [hb, if_true] at h
        by_cases hl : i < ρ.length
        · simp only [hl, if_true] at h
          refine ⟨x, ρ.set i none, φ, S, re.unset i _, rs, ⟨rx, fun k z => ?_⟩, OkS.off h⟩
          cases z
          exact List.getElem?_set_self (by rw [← re.1]; exact hl)
        · simp only [hl, if_false] at h
          exact h.elim
      · simp only [hb, Bool.false_eq_true, if_false] at h
        exact h2 D x ρ φ S σ H cls d re rs rx h
    · simp only [hx, if_false] at h
      exact h.elim
theorem ms_try (hs : X.stack = X.env :: X.outer) (hf : X.env.frame = some X.env.locals) (hN : X.N.Nodup) (tk : Takes X W) (SU : SubOk X.K X.mg errs sub)
    (hb : ∀ (W' : WX) (pn : List (Addr × Obj)) (xe : Value → Shared → Prop), Takes (X.tr pn xe) W' → PassesOwn (model X.prog X.w) X.A X.env xe → MSs (X.tr pn xe) W' body cb) (hh : HdsX X errs (h₀ :: hds) l) :
    MS X W (.Try body (h₀ :: hds) [] [] pos) (cTry errs sub cb l) := by
  obtain ⟨l', h1, h2⟩ := hds_mix (W := W) SU hh
  refine ⟨(ps_try_mix (tb := fun W' => rdS X W' cb) hs hf hN tk (fun W' pn xe t p => (hb W' pn xe t p).ps) h1).imp fun D σ H h => ?_⟩
  obtain ⟨ρ, φ, S, hE, hS, h⟩ := h
  refine ⟨ρ, φ, S, hE, hS, ?_⟩
  unfold cTry at h
  cases q : cb ρ S with
  | nx ρ1 S1 => rw [q] at h; exact h
  | ret d S1 => rw [q] at h; exact h
  | brk ρ1 S1 => rw [q] at h; exact h
  | cnt ρ1 S1 => rw [q] at h; exact h
  | err x ρ1 S1 =>
    rw [q] at h
    exact fun φ' H' σ' cls dx le rs re rx => h2 D x ρ1 φ' S1 σ' H' cls dx re rs rx (OkS.later le h)
  | bad => rw [q] at h; exact h.elim
end
end MP

/-! MP: the facts of own exception classes, out of the written part. -/
namespace MP
open PySem PySem.Spec PySem.W PySem.Calls PyProof.Rows PySem.HandSPX L2

theorem _root_.L2.Room.units65 {k : Nat} {A : Around} (r : Room k A) : A.units + 65 < cLine := by have := r.un; omega
def clsBody : Stmt → List Stmt
  | .ClassDef _ _ _ b _ _ _ _ _ _ _ => b
  | _ => []
def noPos : Pos := ⟨0, 0, 0, 0⟩
def initPos : List Stmt → Nat → Pos
  | [.Expr (.Call (.Attribute (.Call (.Name _ p0) _ _ p1) _ p2) [.Name _ p3] _ p4) p5, .Assign [.Attribute (.Name _ p6) _ p7] (.Name _ p8) p9, .Assign [.Attribute (.Name _ p10) _ p11] (.Constant _ _ p12) p13], n =>
    [p0, p1, p2, p3, p4, p5, p6, p7, p8, p9, p10, p11, p12, p13].getD n noPos
  | [.Expr (.Call (.Attribute (.Call (.Name _ p0) _ _ p1) _ p2) [.Name _ p3] _ p4) p5, .Assign [.Attribute (.Name _ p10) _ p11] (.Constant _ _ p12) p13], n =>
    [p0, p1, p2, p3, p4, p5, noPos, noPos, noPos, noPos, p10, p11, p12, p13].getD n noPos
  | _, _ => noPos
/-- the shape of the class -/
def errShape (K : Frag) (C : Addr) : Bool := match K.lookup C with
  | some ⟨.type "type", _, .cls cd, sl⟩ => (match cd.mro, sl.toList with
    | .ref C' :: bm, [_, _, _, _, some (.builtin n), _] => C' == C && n == "ValueError.__new__" && !cd.hasDel && cd.hasDict && refsVE bm
    | _, _ => false)
  | _ => false
theorem errShape_ok {K : Frag} {C : Addr} (q : errShape K C = true) : (∃ nm q N bs bm sn sub ab col dd k0 k1 k2 k3 k5, K.lookup C = some (excClassObj nm q C N bs bm true sn sub ab col dd k0 k1 k2 k3 k5 "ValueError.__new__") ∧ refsVE bm = true) ∧ ∃ cd, clsIn K C = some cd := by
  unfold errShape at q
  split at q
  · rename_i dd cd sl ho
    split at q
    · rename_i C' bm k0 k1 k2 k3 n k5 hm hs
      simp only [Bool.and_eq_true, beq_iff_eq, Bool.not_eq_true'] at q
      obtain ⟨⟨⟨⟨rfl, rfl⟩, hdel⟩, hdict⟩, ht⟩ := q
      refine ⟨?_, cd, by unfold clsIn; rw [ho] <;> rfl⟩
      obtain ⟨nm, bs, mro, ns, qn, hd, sn, sub, ab, col, del⟩ := cd
      dsimp only at hm hdel hdict
      subst hm hdel hdict
      have hsl : sl = #[k0, k1, k2, k3, some (.builtin "ValueError.__new__"), k5] := by
        obtain ⟨l⟩ := sl
        simp only at hs
        rw [hs]
      subst hsl
      exact ⟨nm, qn, ns, bs, bm, sn, sub, ab, col, dd, k0, k1, k2, k3, k5, ho, ht⟩
    · cases q
  · cases q
/-- what is asked of the class at C, whose __init__ is at f; init: what lies behind it -/
def errB (K : Frag) (C f : Addr) (init : Value) : Bool :=
  errShape K C && (decide (findIn K (.ref C) "__setattr__" = some (some (.builtin "object.__setattr__"))) && (decide (subIn K (.ref C) (.type "BaseException") = some true) && (decide (subIn K (.ref C) (.type "ValueError") = some true) && (decide (typeIn K (.ref C) = some (.type "type")) &&
  (keepIn K (.ref C) && (decide (nsIn K cStatics "thirdparty.any" = some none) && (decide (mroIn K C (.ref C) = some true) && (decide (findIn K (.ref C) "__init__" = some (some (.ref f))) && (decide (typeIn K (.ref f) = some (.type "function")) &&
  (decide (ks_superIn K C C "__init__" = some (some init)) && (decide (findIn K (.ref C) "place" = some none) && (decide (findIn K (.ref C) "name" = some none) && xfB K C))))))))))))
structure ErrF (K : Frag) (C f : Addr) (init : Value) : Prop where
  T : ExCls K C
  cd : ∃ cd, clsIn K C = some cd
  mro : mroIn K C (.ref C) = some true
  iC : findIn K (.ref C) "__init__" = some (some (.ref f))
  tf : typeIn K (.ref f) = some (.type "function")
  su : ks_superIn K C C "__init__" = some (some init)
  n1 : findIn K (.ref C) "place" = some none
  n2 : findIn K (.ref C) "name" = some none
  xf : XfC K C
theorem errB_ok {K : Frag} {C f : Addr} {init : Value} (h : errB K C f init = true) : ErrF K C f init := by
  unfold errB at h
  simp only [Bool.and_eq_true, decide_eq_true_eq] at h
  obtain ⟨h0, h1, h2, h3, h4, h5, h6, h7, h8, h9, h10, h11, h12, h13⟩ := h
  obtain ⟨hc, hd⟩ := errShape_ok h0
  exact ⟨⟨⟨hc, h1, h2, h4, h5⟩, h3, h6⟩, hd, h7, h8, h9, h10, h11, h12, xfB_ok h13⟩
/-- the def's object -/
structure FunS (prog : Program) (K : Frag) (f D : Addr) (q : Str) (st : Stmt) (fd : FuncData) : Prop where
  SF : SupFn prog K f D q ["self", "place"] fd
  body : fd.body = .stmts (defBody st)
  bind : ∀ s u v, BindsTo s fd ⟨[u, v], []⟩ [("self", u), ("place", v)]
theorem funS_mk {prog : Program} {K : Frag} {f D cda cc : Addr} {q : Str} {st : Stmt} {od odc odl an : Option Addr} {dc pm ct kV occ ocl : Value} {osl osc osv : Array (Option Value)} {vs : Array Value} {tf : Tok}
    (l : K.lookup f = some ⟨.type "function", od, .func (ksFn "__init__" q (defArgs st) (defBody st) (defScope st) .none kV dc pm an (.ref cda) ct cc), osl⟩) (hc : codeIn K (.ref cda) q = true)
    (lc : K.lookup cda = some ⟨occ, odc, .fields vs, osc⟩) (hv : vs[2]? = some (.str prog.main.file tf)) (ll : K.lookup cc = some ⟨ocl, odl, .cell (some (.ref D)), osv⟩)
    (self : ∃ ar, ((defArgs st).posonlyargs ++ (defArgs st).args).head? = some ar ∧ ar.arg = "self") (kind : (defScope st).kind = .function) (noco : (defScope st).isCoroutine = false) (nogen : (defScope st).isGenerator = false)
    (nocell : ∀ x ∈ (defScope st).names, x.2 ≠ .cell) (loc1 : (defScope st).names.lookup ("self" : Str) = some .local) (loc2 : (defScope st).names.lookup ("place" : Str) = some .local) (sup : (defScope st).names.lookup ("super" : Str) = some .globalImplicit)
    (cls : (defScope st).names.lookup ("__class__" : Str) = some .free) (bind : ∀ s u v, BindsTo s (ksFn "__init__" q (defArgs st) (defBody st) (defScope st) .none kV dc pm an (.ref cda) ct cc) ⟨[u, v], []⟩ [("self", u), ("place", v)]) :
    FunS prog K f D q st (ksFn "__init__" q (defArgs st) (defBody st) (defScope st) .none kV dc pm an (.ref cda) ct cc) :=
  ⟨⟨⟨_, _, _, l⟩, by show (K.lookup f).map (·.cls) = _; rw [l]; rfl, rfl, rfl, rfl, hc, ⟨cda, _, _, vs, _, tf, rfl, lc, hv⟩, ⟨cc, _, _, _, rfl, ll⟩, self, kind, noco, nogen, nocell, fun x hx => by
    simp only [List.mem_cons, List.not_mem_nil, or_false] at hx
    rcases hx with rfl | rfl
    · exact loc1
    · exact loc2, sup, cls⟩, rfl, bind⟩
section
variable {prog : Program} {w : World} {K : Frag} {mg : Str → Option Value} {C G f fG : Addr} {q qG nm nmG : Str} {st stG : Stmt} {fd fdG : FuncData} {j jG : Nat}
theorem mke1 (B : ErrF K C f (.builtin "ValueError.__init__")) (S : FunS prog K f C q st fd) (hb : defBody st = initBase nm j (initPos (defBody st))) (hev : SupEv (initPos (defBody st)))
    (hsuper : mg "super" = none) (htop : (prog.main.scope.names.lookup ("super" : Str)).isSome = false) : MkE prog w K mg C nm := by
  obtain ⟨cd, hcd⟩ := B.cd
  exact mke_base S.SF (S.body.trans (by rw [← hb])) hev S.bind B.T B.iC hcd B.mro B.su hsuper htop (by first | rfl | kernel_rfl) B.n1 B.n2
theorem mke2 (BG : ErrF K G fG (.builtin "ValueError.__init__")) (SG : FunS prog K fG G qG stG fdG) (hbG : defBody stG = initBase nmG jG (initPos (defBody stG))) (hevG : SupEv (initPos (defBody stG)))
    (B : ErrF K C f (.ref fG)) (S : FunS prog K f C q st fd) (hb : defBody st = initSub nm j (initPos (defBody st))) (hev : SupEv (initPos (defBody st)))
    (m1 : mroIn K C (.ref G) = some true) (m2 : ks_superIn K C G "__init__" = some (some (.builtin "ValueError.__init__")))
    (hsuper : mg "super" = none) (htop : (prog.main.scope.names.lookup ("super" : Str)).isSome = false) : MkE prog w K mg C nm := by
  obtain ⟨cd, hcd⟩ := B.cd
  obtain ⟨cdG, hcdG⟩ := BG.cd
  exact mke_sub SG.SF (SG.body.trans (by rw [← hbG])) hevG S.SF (S.body.trans (by rw [← hb])) hev SG.bind S.bind B.T B.iC hcdG hcd m1 B.mro m2 B.su hsuper htop (by first | rfl | kernel_rfl) B.n1 B.n2
end
/-! ### the tables of what is over what -/
def subTab (t : List (Str × List Str)) (c h : Str) : Bool := match t with
  | [] => false
  | (x, hs) :: r => if x = c then hs.any fun y => decide (y = h) else subTab r c h
def subB (K : Frag) (tbl : List (Str × Addr)) (sub : Str → Str → Bool) : Bool := tbl.all fun p => tbl.all fun q => decide (exmOne K (.ref p.2) (.ref q.2) = some (sub p.1 q.1))
theorem subB_ok {K : Frag} {mg : Str → Option Value} {tbl : List (Str × Addr)} {sub : Str → Str → Bool} (h : subB K tbl sub = true) (hm : ∀ p ∈ tbl, mg p.1 = some (.ref p.2)) : SubOk K mg (tbl.map (·.1)) sub := by
  intro c hc h' hh C D h1 h2
  obtain ⟨p, hp, rfl⟩ := List.mem_map.mp hc
  obtain ⟨q, hq, rfl⟩ := List.mem_map.mp hh
  unfold subB at h
  have := of_decide_eq_true (List.all_eq_true.mp (List.all_eq_true.mp h p hp) q hq)
  rw [hm p hp] at h1
  rw [hm q hq] at h2
  cases h1
  cases h2
  exact this
theorem xfs_ok {K : Frag} {mg : Str → Option Value} {tbl : List (Str × Addr)} (hm : ∀ p ∈ tbl, mg p.1 = some (.ref p.2)) (hx : ∀ p ∈ tbl, XfC K p.2 ∧ findIn K (.ref p.2) "place" = some none ∧ findIn K (.ref p.2) "name" = some none) : XfOk K mg (tbl.map (·.1)) := by
  intro c hc C h1
  obtain ⟨p, hp, rfl⟩ := List.mem_map.mp hc
  rw [hm p hp] at h1
  cases h1
  exact hx p hp
end MP

/-! MP: membership, dicts. -/
namespace MP
open PySem PySem.Spec PyProof.Rows L2

/-! ### x in y -/
def D.flat1 : D → Bool
  | .non => true
  | .bl _ => true
  | .int _ => true
  | .str _ => true
  | _ => false
/-- is it among them -/
def D.among (x : D) (xs : List D) : Bool := xs.any fun z => PyData.eqv z.toP x.toP
/-- a changeable list, looked at -/
def D.top (S : Sto) : D → D
  | .ref l i => match look S l i with
    | some (.lst xs) => .lst xs
    | _ => .ref l i
  | d => d
def subS (x z : Str) : Bool := if x.cps.size = 1 then decide (x.cps.getD 0 0 ∈ z.cps.toList) else !(Builtin.Str.occurrences z x 0 z.length 1).isEmpty
def inB (x y : D) : Option Bool := match y with
  | .str z => match x with
    | .str w => some (subS w z)
    | _ => none
  | .tup xs => if x.flat1 && xs.all D.flat1 then some (x.among xs) else none
  | .lst xs => if x.flat1 && xs.all D.flat1 then some (x.among xs) else if SeqAt.shaped x.toP && SeqAt.shaped (.list (D.toPs xs)) then some (x.among xs) else none
  | .rol xs => if x.flat1 && xs.all D.flat1 then some (x.among xs) else none
  | _ => none
def gIn : G2 := fun x y S => match inB x (y.top S) with
  | some b => .ok (.bl b) S
  | none => .bad
def gNotIn : G2 := fun x y S => match inB x (y.top S) with
  | some b => .ok (.bl (!b)) S
  | none => .bad
section
variable {K : PySem.W.Frag} {φ : Phi} {H : Hp}
theorem rel_flat {d : D} {v : V} (r : Rel K φ H d v) (h : d.flat1 = true) : flatV v = true := by
  cases r <;> first | rfl | (simp [D.flat1] at h)
theorem rel_eqV {a b : D} {v w : V} (r : Rel K φ H a v) (q : Rel K φ H b w) (h : a.flat1 = true) (h2 : b.flat1 = true) : eqV v w = PyData.eqv a.toP b.toP := by
  cases r <;> first | (simp [D.flat1] at h; done) | skip
  all_goals (cases q <;> first | (simp [D.flat1] at h2; done) | (simp [eqV, D.toP, PyData.eqv]))
theorem rel_in {x : D} {v : V} (r : Rel K φ H x v) (h : x.flat1 = true) : ∀ {ds : List D} {vs : List V}, RelL K φ H ds vs → ds.all D.flat1 = true → vs.all flatV = true ∧ inV v vs = x.among ds
  | _, _, .nil, _ => ⟨rfl, rfl⟩
  | _, _, .cons r1 rs, q => by
    simp only [List.all_cons, Bool.and_eq_true] at q
    obtain ⟨h1, h2⟩ := rel_in r h rs q.2
    refine ⟨by simp [rel_flat r1 q.1, h1], ?_⟩
    have : inV v _ = x.among _ := h2
    unfold inV D.among at this ⊢
    rw [List.any_cons, List.any_cons, this, rel_eqV r1 r q.1 h]
theorem toPs_any (x : D) (ds : List D) : ((D.toPs ds).any fun z => PyData.eqv z x.toP) = x.among ds := by
  induction ds with
  | nil => rfl
  | cons d ds ih =>
    unfold D.among at ih ⊢
    rw [D.toPs, List.any_cons, List.any_cons, ih]
/-- the same values, of what is looked at -/
theorem rel_top {S : Sto} (s : RS K φ H S) {d : D} {v : V} (r : Rel K φ H d v) : (∃ a vs ds, d.top S = .lst ds ∧ v = .ref a ∧ H a = some (.lst vs) ∧ vs.length ≤ sizeLine ∧ RelL K φ H ds vs) ∨ d.top S = d := by
  cases r with
  | ref e =>
    rename_i l i a
    unfold D.top
    cases q : look S l i with
    | none => exact .inr (by simp [q])
    | some o =>
      cases o with
      | lst xs =>
        obtain ⟨vs, h1, h2, h3⟩ := s.obj l i _ a q e
        exact .inl ⟨a, vs, xs, by simp [q], rfl, h1, h2, h3⟩
      | box b xs => exact .inr (by simp [q])
      | dead => exact .inr (by simp [q])
  | lst z f w rr => exact .inl ⟨_, _, _, rfl, rfl, f, z, rr⟩
  | _ => exact .inr rfl
end
section
variable {X : Cx}
def rInAll (K : PySem.W.Frag) (neg : Bool) : R2 := fun x y H Q =>
  ((∃ i j, x = .str i ∧ y = .str j ∧ Q (.bl (neg ^^ (!(Builtin.Str.occurrences j i 0 j.length 1).isEmpty))) H) ∨ (∃ (c : Nat) (z : Str), x = .str ⟨#[c]⟩ ∧ y = .str z ∧ Q (.bl (neg ^^ decide (c ∈ z.cps.toList))) H)) ∨
  (∃ p xs, y = .ref p ∧ (SqL K H p xs ∨ SqT K H p xs) ∧ flatV x = true ∧ xs.all flatV = true ∧ Q (.bl (neg ^^ inV x xs)) H) ∨
  (∃ d ds, Dp K H x d ∧ Dp K H y (.list ds) ∧ SeqAt.shaped d = true ∧ SeqAt.shaped (.list ds) = true ∧ Q (.bl (neg ^^ (ds.any fun z => PyData.eqv z d))) H)
theorem op_inAll (hu : X.A.units + 65 < cLine) : OpR X (compareOp .In) (rInAll X.K false) := by
  intro pins s σ H x y v u Q I rx ry h
  rcases h with (⟨i, j, e1, e2, h⟩ | ⟨c, z, e1, e2, h⟩) | ⟨p, xs, e1, h1, h2, h3, h⟩ | ⟨d, ds, h1, h2, h3, h4, h⟩
  · exact op_in_str pins s σ H x y v u Q I rx ry ⟨i, j, e1, e2, by simpa using h⟩
  · exact op_in_sign pins s σ H x y v u Q I rx ry ⟨c, z, e1, e2, by simpa using h⟩
  · exact op_in_seq pins s σ H x y v u Q I rx ry ⟨p, xs, e1, h1, h2, h3, by simpa using h⟩
  · exact op_inD hu pins s σ H x y v u Q I rx ry ⟨d, ds, h1, h2, h3, h4, by simpa using h⟩
theorem op_notInAll (hu : X.A.units + 65 < cLine) : OpR X (compareOp .NotIn) (rInAll X.K true) := by
  intro pins s σ H x y v u Q I rx ry h
  rcases h with (⟨i, j, e1, e2, h⟩ | ⟨c, z, e1, e2, h⟩) | ⟨p, xs, e1, h1, h2, h3, h⟩ | ⟨d, ds, h1, h2, h3, h4, h⟩
  · exact op_notin_str pins s σ H x y v u Q I rx ry ⟨i, j, e1, e2, by simpa using h⟩
  · exact op_notIn_sign pins s σ H x y v u Q I rx ry ⟨c, z, e1, e2, by simpa using h⟩
  · exact op_notIn_seq pins s σ H x y v u Q I rx ry ⟨p, xs, e1, h1, h2, h3, by simpa using h⟩
  · exact op_notInD hu pins s σ H x y v u Q I rx ry ⟨d, ds, h1, h2, h3, h4, by simpa using h⟩
theorem inAll_of {φ : Phi} {H : Hp} {S : Sto} {x y : D} {vx vy : V} {Q : VK} {neg b : Bool} (s : RS X.K φ H S) (rx : Rel X.K φ H x vx) (ry : Rel X.K φ H y vy) (hb : inB x (y.top S) = some b) (z : Q (.bl (neg ^^ b)) H) : rInAll X.K neg vx vy H Q := by
  have seq : ∀ {ds : List D} {vs : List V} {a : Addr}, vy = .ref a → (SqL X.K H a vs ∨ SqT X.K H a vs) → RelL X.K φ H ds vs → (x.flat1 && ds.all D.flat1) = true → b = x.among ds → rInAll X.K neg vx vy H Q := by
    intro ds vs a e h r hf hb
    rw [Bool.and_eq_true] at hf
    obtain ⟨h1, h2⟩ := rel_in rx hf.1 r hf.2
    exact .inr (.inl ⟨a, vs, e, h, rel_flat rx hf.1, h1, by rw [h2, ← hb]; exact z⟩)
  have lst : ∀ {ds : List D} {vs : List V} {a : Addr}, y.top S = .lst ds → vy = .ref a → H a = some (.lst vs) → RelL X.K φ H ds vs → rInAll X.K neg vx vy H Q := by
    intro ds vs a ht e h r
    rw [ht] at hb
    unfold inB at hb
    by_cases hf : (x.flat1 && ds.all D.flat1) = true
    · simp only [hf, if_true, Option.some.injEq] at hb
      exact seq e (.inl (SqL.of h)) r hf hb.symm
    · simp only [hf, Bool.false_eq_true, if_false] at hb
      by_cases hs : (SeqAt.shaped x.toP && SeqAt.shaped (.list (D.toPs ds))) = true
      · simp only [hs, if_true, Option.some.injEq] at hb
        rw [Bool.and_eq_true] at hs
        have c2 : PyData.canLayAll0 (D.toPs ds) = true := by
          have := SeqAt.canLay_of_shaped hs.2
          simpa [PyData.canLay0] using this
        refine .inr (.inr ⟨_, _, dp_of rx (SeqAt.canLay_of_shaped hs.1), by rw [e]; exact .lst (SqL.of h) (dps_of r c2), hs.1, hs.2, ?_⟩)
        rw [toPs_any, hb]
        exact z
      · simp only [hs, Bool.false_eq_true, if_false] at hb
        cases hb
  rcases rel_top s ry with ⟨a, vs, ds, e1, e2, e3, e4, e5⟩ | e
  · exact lst e1 e2 e3 e5
  · rw [e] at hb
    cases ry with
    | str w =>
      unfold inB at hb
      cases rx <;> try (simp at hb; done)
      rename_i u
      simp only [Option.some.injEq] at hb
      unfold subS at hb
      by_cases h1 : u.cps.size = 1
      · simp only [h1, if_true] at hb
        obtain ⟨⟨l⟩⟩ := u
        match l, h1 with
        | [c], _ => exact .inl (.inr ⟨c, w, rfl, rfl, by simp at hb; rw [← hb] at z; simpa using z⟩)
      · simp only [h1, if_false] at hb
        exact .inl (.inl ⟨_, _, rfl, rfl, by rw [hb]; exact z⟩)
    | @tup a vs ds zz f rr =>
      unfold inB at hb
      by_cases hf : (x.flat1 && ds.all D.flat1) = true
      · simp only [hf, if_true, Option.some.injEq] at hb
        exact seq rfl (.inr f.sq) rr hf hb.symm
      · simp only [hf, Bool.false_eq_true, if_false] at hb
        cases hb
    | lst zz f w rr => exact lst e rfl f rr
    | @rol a vs ds zz f rr =>
      unfold inB at hb
      by_cases hf : (x.flat1 && ds.all D.flat1) = true
      · simp only [hf, if_true, Option.some.injEq] at hb
        exact seq rfl (.inl f.sq) rr hf hb.symm
      · simp only [hf, Bool.false_eq_true, if_false] at hb
        cases hb
    | _ => simp [inB] at hb
theorem os_in (hu : X.A.units + 65 < cLine) : OS X (compareOp .In) gIn := by
  refine ⟨_, op_inAll hu, fun W σ φ H S x y vx vy Q s rx ry z => ?_⟩
  unfold gIn at z
  cases q : inB x (y.top S) with
  | none => simp only [q] at z; exact z.elim
  | some b =>
    simp only [q] at z
    exact inAll_of s rx ry q (bl_to s z (by simp))
theorem os_notIn (hu : X.A.units + 65 < cLine) : OS X (compareOp .NotIn) gNotIn := by
  refine ⟨_, op_notInAll hu, fun W σ φ H S x y vx vy Q s rx ry z => ?_⟩
  unfold gNotIn at z
  cases q : inB x (y.top S) with
  | none => simp only [q] at z; exact z.elim
  | some b =>
    simp only [q] at z
    exact inAll_of s rx ry q (bl_to s z (by simp))
end

/-! ### dicts of ints and texts -/
def D.key : D → Option Key
  | .int i => some (.inl i)
  | .str x => some (.inr x)
  | _ => none
def getA {α : Type} : List Key → List α → Key → Option α
  | k' :: ks, a :: as, k => if k' = k then some a else getA ks as k
  | _, _, _ => none
def hasK (ks : List Key) (k : Key) : Bool := ks.any fun x => decide (x = k)
def putKs (ks : List Key) (k : Key) : List Key := if hasK ks k then ks else ks ++ [k]
def putA {α : Type} (ks : List Key) (as : List α) (k : Key) (a : α) : List α := if hasK ks k then (ks.zip as).map (fun p => if p.1 = k then a else p.2) else as ++ [a]
def D.dict (S : Sto) : D → Option (List Key × List D)
  | .box (.dK ks) ds => some (ks, ds)
  | .ref l i => match look S l i with
    | some (.box (.dK ks) ds) => some (ks, ds)
    | _ => none
  | _ => none
section
variable {K : PySem.W.Frag} {φ : Phi} {H : Hp}
theorem rel_key {d : D} {v : V} {k : Key} (r : Rel K φ H d v) (h : d.key = some k) : v = kV k := by
  cases r <;> first | (simp [D.key] at h; done) | (simp only [D.key, Option.some.injEq] at h; subst h; rfl)
theorem valV_zip {k : Key} : ∀ {ks : List Key} {vs : List V}, ks.length = vs.length → valV (ks.zip vs) k = getA ks vs k
  | [], [], _ => rfl
  | k' :: ks, v :: vs, h => by
    rw [List.zip_cons_cons, getA]
    by_cases e : k' = k
    · rw [valV_pos e, if_pos e]
    · rw [valV_neg e, if_neg e]
      exact valV_zip (by simpa using h)
theorem getA_some {k : Key} {d : D} : ∀ {ks : List Key} {ds : List D} {vs : List V}, RelL K φ H ds vs → getA ks ds k = some d → ∃ v, getA ks vs k = some v ∧ Rel K φ H d v
  | [], _, _, _, h => by cases h
  | k' :: ks, _, _, .nil, h => by cases h
  | k' :: ks, _, _, .cons r rs, h => by
    rw [getA] at h ⊢
    by_cases e : k' = k
    · rw [if_pos e] at h ⊢
      cases h
      exact ⟨_, rfl, r⟩
    · rw [if_neg e] at h ⊢
      exact getA_some rs h
theorem getA_none {k : Key} : ∀ {ks : List Key} {ds : List D} {vs : List V}, RelL K φ H ds vs → getA ks ds k = none → getA ks vs k = none
  | [], _, _, _, h => rfl
  | k' :: ks, _, _, .nil, h => rfl
  | k' :: ks, _, _, .cons r rs, h => by
    rw [getA] at h ⊢
    by_cases e : k' = k
    · rw [if_pos e] at h; cases h
    · rw [if_neg e] at h ⊢
      exact getA_none rs h
theorem getA_rel {k : Key} {ks : List Key} {ds : List D} {vs : List V} (r : RelL K φ H ds vs) : (getA ks ds k).isSome = (getA ks vs k).isSome := by
  cases q : getA ks ds k with
  | none => rw [getA_none r q]; rfl
  | some d =>
    obtain ⟨v, h, _⟩ := getA_some r q
    rw [h]; rfl
theorem zip_map_snd {α β γ : Type} (f : α × β → γ) : ∀ {ks : List α} {vs : List β}, ks.length = vs.length → ks.zip ((ks.zip vs).map f) = (ks.zip vs).map fun p => (p.1, f p)
  | [], [], _ => rfl
  | k :: ks, v :: vs, h => by
    simp only [List.zip_cons_cons, List.map_cons]
    rw [zip_map_snd f (by simpa using h)]
theorem zip_any {k : Key} : ∀ {ks : List Key} {vs : List V}, ks.length = vs.length → ((ks.zip vs).any fun kv => decide (kv.1 = k)) = hasK ks k
  | [], [], _ => rfl
  | k' :: ks, v :: vs, h => by
    rw [List.zip_cons_cons, List.any_cons, zip_any (by simpa using h)]
    rfl
theorem putK_zip {k : Key} {v : V} {ks : List Key} {vs : List V} (h : ks.length = vs.length) : putK (ks.zip vs) k v = (putKs ks k).zip (putA ks vs k v) := by
  unfold putK putKs putA
  rw [zip_any h]
  by_cases e : hasK ks k = true
  · simp only [e, if_true]
    rw [zip_map_snd _ h]
    refine List.map_congr_left fun p _ => ?_
    obtain ⟨a, b⟩ := p
    by_cases q : a = k
    · simp [q]
    · simp [q]
  · simp only [e, Bool.false_eq_true, if_false]
    rw [List.zip_append h]
    rfl
theorem putA_len {α : Type} {k : Key} {a : α} {ks : List Key} {as : List α} (h : ks.length = as.length) : (putKs ks k).length = (putA ks as k a).length := by
  unfold putKs putA
  by_cases e : hasK ks k = true
  · simp [e, h]
  · simp [e, h]
theorem putKs_len (ks : List Key) (k : Key) : (putKs ks k).length ≤ ks.length + 1 := by
  unfold putKs
  by_cases e : hasK ks k = true
  · simp [e]
  · simp [e]
theorem relL_mapzip {k : Key} {d : D} {v : V} (q : Rel K φ H d v) : ∀ {ks : List Key} {ds : List D} {vs : List V}, RelL K φ H ds vs → RelL K φ H ((ks.zip ds).map fun p => if p.1 = k then d else p.2) ((ks.zip vs).map fun p => if p.1 = k then v else p.2)
  | [], _, _, _ => .nil
  | _ :: _, _, _, .nil => .nil
  | k' :: ks, _, _, .cons r rs => by
    simp only [List.zip_cons_cons, List.map_cons]
    refine .cons ?_ (relL_mapzip q rs)
    by_cases e : k' = k
    · simp only [e, if_true]; exact q
    · simp only [e, if_false]; exact r
theorem putA_rel {k : Key} {d : D} {v : V} {ks : List Key} {ds : List D} {vs : List V} (r : RelL K φ H ds vs) (q : Rel K φ H d v) : RelL K φ H (putA ks ds k d) (putA ks vs k v) := by
  unfold putA
  by_cases e : hasK ks k = true
  · simp only [e, if_true]; exact relL_mapzip q r
  · simp only [e, Bool.false_eq_true, if_false]; exact r.append (.cons q .nil)
/-- what a dict is in the heap -/
theorem rel_dict {S : Sto} (s : RS K φ H S) {d : D} {v : V} {ks : List Key} {ds : List D} (r : Rel K φ H d v) (h : d.dict S = some (ks, ds)) : ∃ a vs, v = .ref a ∧ H a = some (.dK (ks.zip vs)) ∧ ks.length = vs.length ∧ RelL K φ H ds vs := by
  cases r <;> try (simp [D.dict] at h; done)
  · rename_i a vs ds' b at_ n w rr
    cases b <;> simp [D.dict] at h
    obtain ⟨rfl, rfl⟩ := h
    exact ⟨a, vs, rfl, at_.2, at_.1, rr⟩
  · rename_i l i a e
    unfold D.dict at h
    cases q : look S l i with
    | none => simp [q] at h
    | some o =>
      cases o with
      | lst xs => simp [q] at h
      | dead => simp [q] at h
      | box b xs =>
        cases b <;> simp [q] at h
        obtain ⟨rfl, rfl⟩ := h
        obtain ⟨vs, h1, h2⟩ := s.obj l i _ a q e
        exact ⟨a, vs, rfl, h1.2, h1.1, h2⟩
end

/-! ### one of two readings -/
theorem _root_.L2.PE.or {X : Cx} {e : Expr} {t u : TE} (h : PE X e t) (k : PE X e u) : PE X e (fun σ H Q => t σ H Q ∨ u σ H Q) := ⟨fun pins s σ H Q I z => z.elim (h.run pins s σ H Q I) (k.run pins s σ H Q I)⟩
theorem _root_.L2.PT.or {X : Cx} {e : Expr} {t u : TT} (h : PT X e t) (k : PT X e u) : PT X e (fun σ H Q => t σ H Q ∨ u σ H Q) := ⟨fun pins s σ H Q I z => z.elim (h.run pins s σ H Q I) (k.run pins s σ H Q I)⟩
theorem _root_.L2.PS.or {X : Cx} {e : Stmt} {t u : TS} (h : PS X e t) (k : PS X e u) : PS X e (fun D σ H => t D σ H ∨ u D σ H) := ⟨fun pins s σ H D I z => z.elim (h.run pins s σ H D I) (k.run pins s σ H D I)⟩
section
variable {X : Cx} {W : WX} {e : Expr} {st : Stmt}
theorem ME.or {c1 c2 c : C} (h1 : ME X W e c1) (h2 : ME X W e c2) (k : ∀ ρ S, c ρ S = c1 ρ S ∨ c ρ S = c2 ρ S) : ME X W e c := ⟨(h1.pe.or h2.pe).imp fun σ H Q h => by
  obtain ⟨ρ, φ, S, he, hs, h⟩ := h
  rcases k ρ S with q | q
  · exact .inl ⟨ρ, φ, S, he, hs, by rw [← q]; exact h⟩
  · exact .inr ⟨ρ, φ, S, he, hs, by rw [← q]; exact h⟩⟩
theorem MT.or {c1 c2 c : CT} (h1 : MT X W e c1) (h2 : MT X W e c2) (k : ∀ ρ S, c ρ S = c1 ρ S ∨ c ρ S = c2 ρ S) : MT X W e c := ⟨(h1.pt.or h2.pt).imp fun σ H Q h => by
  obtain ⟨ρ, φ, S, he, hs, h⟩ := h
  rcases k ρ S with q | q
  · exact .inl ⟨ρ, φ, S, he, hs, by rw [← q]; exact h⟩
  · exact .inr ⟨ρ, φ, S, he, hs, by rw [← q]; exact h⟩⟩
theorem MS.or {c1 c2 c : CS} (h1 : MS X W st c1) (h2 : MS X W st c2) (k : ∀ ρ S, c ρ S = c1 ρ S ∨ c ρ S = c2 ρ S) : MS X W st c := ⟨(h1.ps.or h2.ps).imp fun D σ H h => by
  obtain ⟨ρ, φ, S, he, hs, h⟩ := h
  rcases k ρ S with q | q
  · exact .inl ⟨ρ, φ, S, he, hs, by rw [← q]; exact h⟩
  · exact .inr ⟨ρ, φ, S, he, hs, by rw [← q]; exact h⟩⟩
end
theorem cB_or {g g1 g2 : G2} {a b : C} (h : ∀ x y S, g x y S = g1 x y S ∨ g x y S = g2 x y S) (ρ : Ro) (S : Sto) : cB g a b ρ S = cB g1 a b ρ S ∨ cB g a b ρ S = cB g2 a b ρ S := by
  unfold cB
  cases a ρ S with
  | err x S1 => exact .inl rfl
  | bad => exact .inl rfl
  | ok d S1 =>
    simp only [R.bind_ok]
    cases b ρ S1 with
    | err x S1 => exact .inl rfl
    | bad => exact .inl rfl
    | ok e S2 =>
      simp only [R.bind_ok]
      exact h d e S2

/-! ### d[k], k in d -/
def gDget : G2 := fun x k S => match x.dict S with
  | some (ks, ds) => match k.key with
    | some κ => match getA ks ds κ with
      | some d => .ok d S
      | none => .bad
    | none => .bad
  | none => .bad
def gItem : G2 := fun x k S => match x.dict S with
  | some _ => gDget x k S
  | none => gIx x k S
def gDin : G2 := fun k x S => match x.dict S with
  | some (ks, ds) => match k.key with
    | some κ => .ok (.bl (getA ks ds κ).isSome) S
    | none => .bad
  | none => .bad
def gDnotIn : G2 := fun k x S => match x.dict S with
  | some (ks, ds) => match k.key with
    | some κ => .ok (.bl (!(getA ks ds κ).isSome)) S
    | none => .bad
  | none => .bad
def gMem : G2 := fun k x S => match x.dict S with
  | some _ => gDin k x S
  | none => gIn k x S
def gNotMem : G2 := fun k x S => match x.dict S with
  | some _ => gDnotIn k x S
  | none => gNotIn k x S
section
variable {X : Cx} {W : WX} {a b : Expr} {ca cb : C} {pos : Pos}
theorem me_dget (hu : X.A.units + 64 < cLine) (ha : ME X W a ca) (hb : ME X W b cb) (hs : NoSl b := by exact fun _ _ => rfl) : ME X W (.Subscript a b pos) (cB gDget ca cb) := by
  refine ⟨(pe_dget (by omega) ha.pe hb.pe hs).imp fun σ H Q h => ?_⟩
  obtain ⟨ρ, φ, S, he, hs, h⟩ := h
  refine ⟨ρ, φ, S, he, hs, h.step fun x S1 φ1 H1 v q l s rx h => ⟨ρ, φ1, S1, he.mono l, s, h.step fun k S2 φ2 H2 vk q2 l2 s2 rk h => ?_⟩⟩
  unfold gDget at h
  cases q3 : x.dict S2 with
  | none => simp only [q3] at h; exact h.elim
  | some p =>
    obtain ⟨ks, ds⟩ := p
    simp only [q3] at h
    cases q4 : k.key with
    | none => simp only [q4] at h; exact h.elim
    | some κ =>
      simp only [q4] at h
      cases q5 : getA ks ds κ with
      | none => simp only [q5] at h; exact h.elim
      | some d =>
        simp only [q5] at h
        obtain ⟨a, vs, e1, e2, e3, e4⟩ := rel_dict s2 (rx.mono l2) q3
        obtain ⟨w, h1, h2⟩ := getA_some e4 q5
        refine ⟨a, w, e1, ?_, h φ2 H2 w (Le.refl _ _) s2 h2⟩
        rw [rel_key rk q4]
        have := DGet.k (k := κ) e2
        rw [valV_zip e3, h1] at this
        exact this
theorem me_item (hu : X.A.units + 64 < cLine) (ha : ME X W a ca) (hb : ME X W b cb) (hs : PlainIx b := by exact fun _ _ => rfl) (hs2 : NoSl b := by exact fun _ _ => rfl) : ME X W (.Subscript a b pos) (cB gItem ca cb) :=
  .or (me_ix ha hb hs) (me_dget hu ha hb hs2) fun ρ S => cB_or (fun x y S => by
    unfold gItem
    cases x.dict S with
    | none => exact .inl rfl
    | some p => exact .inr rfl) ρ S
theorem din_imp {neg : Bool} {σ : L2.St} {H : Hp} {Q : VK} (h : rdE X W (cB (fun k x S => match x.dict S with
  | some (ks, ds) => match k.key with
    | some κ => .ok (.bl (neg ^^ (getA ks ds κ).isSome)) S
    | none => .bad
  | none => .bad) ca cb) σ H Q) : rdE X W ca σ H fun y H1 => rdE X W cb σ H1 fun x H2 => ∃ a o, x = .ref a ∧ DGet H2 a y o ∧ Q (.bl (neg ^^ o.isSome)) H2 := by
  obtain ⟨ρ, φ, S, he, hs, h⟩ := h
  refine ⟨ρ, φ, S, he, hs, h.step fun k S1 φ1 H1 vk q l s rk h => ⟨ρ, φ1, S1, he.mono l, s, h.step fun x S2 φ2 H2 vx q2 l2 s2 rx h => ?_⟩⟩
  cases q3 : x.dict S2 with
  | none => simp only [q3] at h; exact h.elim
  | some p =>
    obtain ⟨ks, ds⟩ := p
    simp only [q3] at h
    cases q4 : k.key with
    | none => simp only [q4] at h; exact h.elim
    | some κ =>
      simp only [q4] at h
      obtain ⟨a, vs, e1, e2, e3, e4⟩ := rel_dict s2 rx q3
      refine ⟨a, valV (ks.zip vs) κ, e1, ?_, ?_⟩
      · rw [rel_key rk q4]
        exact DGet.k (k := κ) e2
      · rw [valV_zip e3, ← getA_rel e4]
        exact h φ2 H2 _ (Le.refl _ _) s2 (.bl _)
theorem gDin_eq : gDin = fun k x S => match x.dict S with
  | some (ks, ds) => match k.key with
    | some κ => .ok (.bl (false ^^ (getA ks ds κ).isSome)) S
    | none => .bad
  | none => .bad := by
  funext k x S
  simp [gDin]
theorem gDnotIn_eq : gDnotIn = fun k x S => match x.dict S with
  | some (ks, ds) => match k.key with
    | some κ => .ok (.bl (true ^^ (getA ks ds κ).isSome)) S
    | none => .bad
  | none => .bad := by
  funext k x S
  simp [gDnotIn]
theorem pc_in (hu : X.A.units + 64 < cLine) (ha : ME X W a ca) (hb : ME X W b cb) : PC X .In a b (rdE X W (cB gDin ca cb)) := ⟨fun pins s σ H Q I h => (pc_din (by omega) ha.pe hb.pe).run pins s σ H Q I (by
  rw [gDin_eq] at h
  have := din_imp h
  simpa [tDIn] using this)⟩
theorem pc_notIn (hu : X.A.units + 64 < cLine) (ha : ME X W a ca) (hb : ME X W b cb) : PC X .NotIn a b (rdE X W (cB gDnotIn ca cb)) := ⟨fun pins s σ H Q I h => (pc_dnotin (by omega) ha.pe hb.pe).run pins s σ H Q I (by
  rw [gDnotIn_eq] at h
  have := din_imp h
  simpa [tDNotIn] using this)⟩
theorem mem_or (x y : D) (S : Sto) : gMem x y S = gIn x y S ∨ gMem x y S = gDin x y S := by
  unfold gMem
  cases y.dict S with
  | none => exact .inl rfl
  | some p => exact .inr rfl
theorem notMem_or (x y : D) (S : Sto) : gNotMem x y S = gNotIn x y S ∨ gNotMem x y S = gDnotIn x y S := by
  unfold gNotMem
  cases y.dict S with
  | none => exact .inl rfl
  | some p => exact .inr rfl
theorem me_mem (hu : X.A.units + 65 < cLine) (ha : ME X W a ca) (hb : ME X W b cb) (hm : behindInMarks .In b = false) : ME X W (.Compare a [.In] [b] pos) (cB gMem ca cb) :=
  .or (me_cmp (os_in hu) ha hb hm) ⟨pe_cmp (pc_in (by omega) ha hb) hm⟩ fun ρ S => cB_or mem_or ρ S
theorem me_notMem (hu : X.A.units + 65 < cLine) (ha : ME X W a ca) (hb : ME X W b cb) (hm : behindInMarks .NotIn b = false) : ME X W (.Compare a [.NotIn] [b] pos) (cB gNotMem ca cb) :=
  .or (me_cmp (os_notIn hu) ha hb hm) ⟨pe_cmp (pc_notIn (by omega) ha hb) hm⟩ fun ρ S => cB_or notMem_or ρ S
theorem cTB_or {g g1 g2 : G2} {a b : C} (h : ∀ x y S, g x y S = g1 x y S ∨ g x y S = g2 x y S) (ρ : Ro) (S : Sto) : cTB (cB g a b) ρ S = cTB (cB g1 a b) ρ S ∨ cTB (cB g a b) ρ S = cTB (cB g2 a b) ρ S := by
  unfold cTB
  rcases cB_or (a := a) (b := b) h ρ S with q | q
  · exact .inl (by rw [q])
  · exact .inr (by rw [q])
theorem rdB_of {c : C} {σ : L2.St} {H : Hp} {Q : Bool → Hp → Prop} (h : rdT X W (cTB c) σ H Q) : tB (rdE X W c) σ H Q := by
  obtain ⟨ρ, φ, S, he, hs, h⟩ := h
  refine ⟨ρ, φ, S, he, hs, h.step fun d S1 φ1 H1 v q l s r z => ?_⟩
  cases r <;> try exact z.elim
  rename_i b
  exact ⟨b, rfl, z φ1 H1 b (Le.refl _ _) s rfl⟩
theorem mt_mem (hu : X.A.units + 65 < cLine) (ha : ME X W a ca) (hb : ME X W b cb) (hm : behindInMarks .In b = false) : MT X W (.Compare a [.In] [b] pos) (cTB (cB gMem ca cb)) :=
  .or (mt_cmp (os_in hu) ha hb hm) ⟨(pt_cmp (pc_in (by omega) ha hb) hm).imp fun σ H Q h => rdB_of h⟩ fun ρ S => cTB_or mem_or ρ S
theorem mt_notMem (hu : X.A.units + 65 < cLine) (ha : ME X W a ca) (hb : ME X W b cb) (hm : behindInMarks .NotIn b = false) : MT X W (.Compare a [.NotIn] [b] pos) (cTB (cB gNotMem ca cb)) :=
  .or (mt_cmp (os_notIn hu) ha hb hm) ⟨(pt_cmp (pc_notIn (by omega) ha hb) hm).imp fun σ H Q h => rdB_of h⟩ fun ρ S => cTB_or notMem_or ρ S
end

/-! ### d[k] = v -/
def cSetD (o i e : C) : CS := fun ρ S => .of ρ (e ρ S) fun d S => .of ρ (o ρ S) fun x S => .of ρ (i ρ S) fun k S => match x with
  | .ref l n => match look S l n with
    | some (.box (.dK ks) ds) => match k.key with
      | some κ => if ks.length < 16000000 ∧ D.les l (putA ks ds κ d) = true then .nx ρ (put S l n (.box (.dK (putKs ks κ)) (putA ks ds κ d))) else .bad
      | none => .bad
    | _ => .bad
  | _ => .bad
/-- o[i] = e, of a list or of a dict -/
def cSetA (o i e : C) : CS := fun ρ S => .of ρ (e ρ S) fun d S => .of ρ (o ρ S) fun x S => .of ρ (i ρ S) fun k S => match x with
  | .ref l n => match look S l n with
    | some (.lst xs) => match k with
      | .int j => match ixN xs.length j with
        | some m => if D.les l (xs.set m d) = true then .nx ρ (put S l n (.lst (xs.set m d))) else .bad
        | none => .bad
      | _ => .bad
    | some (.box (.dK ks) ds) => match k.key with
      | some κ => if ks.length < 16000000 ∧ D.les l (putA ks ds κ d) = true then .nx ρ (put S l n (.box (.dK (putKs ks κ)) (putA ks ds κ d))) else .bad
      | none => .bad
    | _ => .bad
  | _ => .bad
theorem dput_ro {K : PySem.W.Frag} {φ : Phi} {H : Hp} {S : Sto} {l n : Nat} {p : Addr} {ks : List Key} {ds : List D} {vs : List V} {κ : Key} {d : D} {v : V} (s : RS K φ H S) (e : look φ.r l n = some p) (q : look S l n = some (.box (.dK ks) ds))
    (h3 : ks.length = vs.length) (h4 : RelL K φ H ds vs) (rd : Rel K φ H d v) (hle : D.les l (putA ks ds κ d) = true) :
    RS K φ (upd H p (.dK (putK (ks.zip vs) κ v))) (put S l n (.box (.dK (putKs ks κ)) (putA ks ds κ d))) := by
  refine s.put e q hle ⟨putA ks vs κ v, ⟨putA_len h3, ?_⟩, RelL.mono (Le.put s e) (putA_rel h4 rd)⟩
  rw [upd_same, putK_zip h3]
section
variable {X : Cx} {W : WX} {pos pos' : Pos} {o i e : Expr} {co ci ce : C}
theorem ms_setD (hu : X.A.units + 64 < cLine) (he : ME X W e ce) (ho : ME X W o co) (hi : ME X W i ci) (hs : swapsWith e (some (.Subscript o i pos')) pos.line X.env = pure false := by rfl) : MS X W (.Assign [.Subscript o i pos'] e pos) (cSetD co ci ce) := by
  refine ⟨(ps_dput (by omega) ho.pe hi.pe he.pe hs).imp fun D' σ H h => ?_⟩
  obtain ⟨ρ, φ, S, hE, hs, h⟩ := h
  refine ⟨ρ, φ, S, hE, hs, OkS.from hE h fun d S1 φ1 H1 v q l1 s1 rd0 za => ⟨ρ, φ1, S1, hE.mono l1, s1, OkS.from (hE.mono l1) za fun x S2 φ2 H2 vx q2 l2 s2 rx0 zb => ⟨ρ, φ2, S2, (hE.mono l1).mono l2, s2, OkS.from ((hE.mono l1).mono l2) zb fun k S3 φ3 H3 vk q3 l3 s3 rk z => ?_⟩⟩⟩
  have rx := rx0.mono l3
  have rd := (rd0.mono l2).mono l3
  clear rx0 rd0 za zb q q2 q3 h
  cases rx <;> try exact z.elim
  rename_i l n p e
  cases q4 : look S3 l n with
  | none => simp only [q4] at z; exact z.elim
  | some ob =>
    cases ob with
    | dead => simp only [q4] at z; exact z.elim
    | lst ds => simp only [q4] at z; exact z.elim
    | box b ds =>
      cases b with
      | dT ks => simp only [q4] at z; exact z.elim
      | ins c fs => simp only [q4] at z; exact z.elim
      | dK ks =>
        simp only [q4] at z
        obtain ⟨vs, ⟨h3, hv⟩, r⟩ := s3.obj l n _ p q4 e
        cases q5 : k.key with
        | none => simp only [q5] at z; exact z.elim
        | some κ =>
          simp only [q5] at z
          by_cases hle : ks.length < 16000000 ∧ D.les l (putA ks ds κ d) = true
          · simp only [hle, and_self, if_true] at z
            refine ⟨p, _, rfl, .inl ⟨ks.zip vs, κ, hv, rel_key rk q5, ?_, rfl⟩, z φ3 _ σ (Le.put s3 e) (dput_ro s3 e q4 h3 r rd hle.2) ((((hE.mono l1).mono l2).mono l3).mono (Le.put s3 e))⟩
            have := hle.1
            rw [List.length_zip, ← h3, sizeLine_eq]
            omega
          · simp only [hle, if_false] at z
            exact z.elim
theorem setA_or (ρ : Ro) (S : Sto) : cSetA co ci ce ρ S = cSetI co ci ce ρ S ∨ cSetA co ci ce ρ S = cSetD co ci ce ρ S := by
  unfold cSetA cSetI cSetD
  cases ce ρ S with
  | err x S1 => exact .inl rfl
  | bad => exact .inl rfl
  | ok d S1 =>
    simp only [RSt.of_ok]
    cases co ρ S1 with
    | err x S1 => exact .inl rfl
    | bad => exact .inl rfl
    | ok x S2 =>
      simp only [RSt.of_ok]
      cases ci ρ S2 with
      | err x S1 => exact .inl rfl
      | bad => exact .inl rfl
      | ok k S3 =>
        simp only [RSt.of_ok]
        cases x <;> try exact .inr rfl
        rename_i l n
        cases q : look S3 l n with
        | none => exact .inr (by simp [q])
        | some ob =>
          cases ob with
          | dead => exact .inr (by simp [q])
          | box b ds =>
            right
            simp only [q]
            cases b <;> rfl
          | lst xs =>
            left
            cases k <;> simp only [q] <;> rfl
theorem ms_setA (hu : X.A.units + 64 < cLine) (he : ME X W e ce) (ho : ME X W o co) (hi : ME X W i ci)
    (ha : ∀ v, assign (.Subscript o i pos') X.env v = (do
      let ov ← holding [v] (eval o X.env)
      let iv ← holding [v, ov] (eval i X.env)
      standAt pos'
      holding [v, ov, iv] (setItem ov iv v)
      release [v, ov, iv] []) := by intro _; rfl)
    (hs : swapsWithSole [.Subscript o i pos'] e pos.line X.env = pure false := by rfl) (hw : swappedStores [.Subscript o i pos'] e X.env = pure none := by rfl)
    (h1 : (assignEach [.Subscript o i pos'] X.env).map (·.2) = [assign (.Subscript o i pos') X.env] := by rfl) (hs2 : swapsWith e (some (.Subscript o i pos')) pos.line X.env = pure false := by rfl) : MS X W (.Assign [.Subscript o i pos'] e pos) (cSetA co ci ce) :=
  .or (ms_setI he ho hi ha hs hw h1) (ms_setD hu he ho hi hs2) setA_or
end

/-! ### d.get(k), d.get(k, x) -/
def cGet1 (o k : C) : C := fun ρ S => (o ρ S).bind fun x S => match x.dict S with
  | some _ => (k ρ S).bind fun y S => match x.dict S with
    | some (ks, ds) => match y.key with
      | some κ => .ok ((getA ks ds κ).getD .non) S
      | none => .bad
    | none => .bad
  | none => .bad
def cGet2 (o k e : C) : C := fun ρ S => (o ρ S).bind fun x S => match x.dict S with
  | some _ => (k ρ S).bind fun y S => (e ρ S).bind fun z S => match x.dict S with
    | some (ks, ds) => match y.key with
      | some κ => .ok ((getA ks ds κ).getD z) S
      | none => .bad
    | none => .bad
  | none => .bad
theorem getA_getD {K : PySem.W.Frag} {φ : Phi} {H : Hp} {k : Key} {ks : List Key} {ds : List D} {vs : List V} {d : D} {v : V} (r : RelL K φ H ds vs) (q : Rel K φ H d v) : Rel K φ H ((getA ks ds k).getD d) ((getA ks vs k).getD v) := by
  cases h : getA ks ds k with
  | none => rw [getA_none r h]; exact q
  | some d' =>
    obtain ⟨w, h1, h2⟩ := getA_some r h
    rw [h1]; exact h2
section
variable {X : Cx} {W : WX} {o e f : Expr} {co ce cf : C} {apos cpos : Pos}
theorem isD_of {φ : Phi} {H : Hp} {S : Sto} {x : D} {v : V} {p : List Key × List D} (s : RS X.K φ H S) (r : Rel X.K φ H x v) (h : x.dict S = some p) : ∃ a, v = .ref a ∧ IsD H a := by
  obtain ⟨ks, ds⟩ := p
  obtain ⟨a, vs, e1, e2, e3, e4⟩ := rel_dict s r h
  exact ⟨a, e1, .inl ⟨_, .inl e2⟩⟩
theorem me_get1 (hu : X.A.units + 64 < cLine) (ho : ME X W o co) (he : ME X W e ce) (m : M1 X o "get" apos e cpos := by exact ⟨rfl, rfl, rfl, rfl⟩) : ME X W (.Call (.Attribute o "get" apos) [e] [] cpos) (cGet1 co ce) := by
  refine ⟨(pe_dget1 (by omega) ho.pe he.pe m).imp fun σ H Q h => ?_⟩
  obtain ⟨ρ, φ, S, hE, hs, h⟩ := h
  refine ⟨ρ, φ, S, hE, hs, h.step fun x S1 φ1 H1 v q l s rx h => ?_⟩
  cases q1 : x.dict S1 with
  | none => simp only [q1] at h; exact h.elim
  | some p =>
    simp only [q1] at h
    obtain ⟨a, e1, e2⟩ := isD_of s rx q1
    refine ⟨a, e1, e2, ρ, φ1, S1, hE.mono l, s, h.step fun y S2 φ2 H2 vy q2 l2 s2 ry h => ?_⟩
    cases q3 : x.dict S2 with
    | none => simp only [q3] at h; exact h.elim
    | some p2 =>
      obtain ⟨ks, ds⟩ := p2
      simp only [q3] at h
      cases q4 : y.key with
      | none => simp only [q4] at h; exact h.elim
      | some κ =>
        simp only [q4] at h
        obtain ⟨a2, vs, f1, f2, f3, f4⟩ := rel_dict s2 (rx.mono l2) q3
        rw [e1] at f1
        cases f1
        refine ⟨valV (ks.zip vs) κ, by rw [rel_key ry q4]; exact DGet.k f2, ?_⟩
        rw [valV_zip f3]
        exact h φ2 H2 _ (Le.refl _ _) s2 (getA_getD f4 .non)
theorem me_get2 (hu : X.A.units + 64 < cLine) (ho : ME X W o co) (he : ME X W e ce) (hf : ME X W f cf) (m : M2 X o "get" apos e f cpos := by exact ⟨rfl, rfl, rfl, rfl⟩) : ME X W (.Call (.Attribute o "get" apos) [e, f] [] cpos) (cGet2 co ce cf) := by
  refine ⟨(pe_dget2 (by omega) ho.pe he.pe hf.pe m).imp fun σ H Q h => ?_⟩
  obtain ⟨ρ, φ, S, hE, hs, h⟩ := h
  refine ⟨ρ, φ, S, hE, hs, h.step fun x S1 φ1 H1 v q l s rx h => ?_⟩
  cases q1 : x.dict S1 with
  | none => simp only [q1] at h; exact h.elim
  | some p =>
    simp only [q1] at h
    obtain ⟨a, e1, e2⟩ := isD_of s rx q1
    refine ⟨a, e1, e2, ρ, φ1, S1, hE.mono l, s, h.step fun y S2 φ2 H2 vy q2 l2 s2 ry h => ⟨ρ, φ2, S2, (hE.mono l).mono l2, s2, h.step fun w S3 φ3 H3 vw q5 l3 s3 rw' h => ?_⟩⟩
    cases q3 : x.dict S3 with
    | none => simp only [q3] at h; exact h.elim
    | some p2 =>
      obtain ⟨ks, ds⟩ := p2
      simp only [q3] at h
      cases q4 : y.key with
      | none => simp only [q4] at h; exact h.elim
      | some κ =>
        simp only [q4] at h
        obtain ⟨a2, vs, f1, f2, f3, f4⟩ := rel_dict s3 ((rx.mono l2).mono l3) q3
        rw [e1] at f1
        cases f1
        refine ⟨valV (ks.zip vs) κ, by rw [rel_key ry q4]; exact DGet.k f2, ?_⟩
        rw [valV_zip f3]
        exact h φ3 H3 _ (Le.refl _ _) s3 (getA_getD f4 rw')
end
end MP

/-! MP: dict displays, sets of keys, lengths. -/
namespace MP
open PySem PySem.Spec PyProof.Rows L2

section
variable {K : PySem.W.Frag} {φ φ0 : Phi} {H H0 : Hp} {S S' S0 : Sto} {p : Addr}
/-- a private thing becomes a changeable object of the store -/
theorem RS.adopt {k l i : Nat} {o : O} (s0 : RS K φ0 H0 S0) (s : RS K φ H S) (e0 : Le φ0 H0 φ H) (h0 : H0 p = none) (mp : p ∈ φ.p) (h : newAt k S o = some (l, i, S')) (hl : o.le l = true) (hr : ∀ φ', Stays φ H φ' H → Grows φ φ' → RO K φ' H o p) :
    ∃ φ', Le φ0 H0 φ' H ∧ RS K φ' H S' ∧ look φ'.r l i = some p := by
  obtain ⟨r', h1, h2⟩ := newAt_both p s.shape.symm h
  have ha := newAt_at h1
  have hb := newAt_at h
  have lk : ∀ l' i', look (Phi.mk r' (φ.p.filter (· ≠ p))).r l' i' = look r' l' i' := fun _ _ => rfl
  have gr : Grows φ ⟨r', φ.p.filter (· ≠ p)⟩ := fun l' i' a e => by
    rw [lk, ha]
    by_cases q : l' = l ∧ i' = i
    · rw [q.1, q.2, newAt_fresh h1] at e
      cases e
    · rw [if_neg q]; exact e
  have aw : ∀ {a}, Away φ a → Away ⟨r', φ.p.filter (· ≠ p)⟩ a := fun {a} w => ⟨fun l' i' e' => by
    rw [lk, ha] at e'
    by_cases q : l' = l ∧ i' = i
    · rw [if_pos q] at e'
      cases e'
      exact w.2 mp
    · rw [if_neg q] at e'
      exact w.1 _ _ e', fun z => w.2 (List.mem_filter.mp z).1⟩
  have st : Stays φ H ⟨r', φ.p.filter (· ≠ p)⟩ H := fun a u e w => ⟨e, aw w⟩
  refine ⟨⟨r', φ.p.filter (· ≠ p)⟩, ⟨(newAt_len h1).trans e0.dep, fun l' i' a e => gr _ _ _ (e0.grow _ _ _ e), fun a u e w => ⟨(e0.stay a u e w).1, aw (e0.stay a u e w).2⟩, fun a q => List.mem_filter.mpr ⟨e0.prv a q, ?_⟩, e0.pst⟩, ⟨h2.symm, fun l' i' o' a e1 e2 => ?_, fun l' i' l2 i2 a e1 e2 => ?_, fun l' i' o' e => ?_, fun l' i' a e => ?_, fun a e => ?_, fun l' i' a e => ?_⟩, ?_⟩
  · have := s0.ptrk a q
    simp only [ne_eq, decide_not, Bool.not_eq_eq_eq_not, Bool.not_true, decide_eq_false_iff_not]
    intro z
    rw [z] at this
    exact this h0
  · rw [lk, ha] at e2
    rw [hb] at e1
    by_cases q : l' = l ∧ i' = i
    · rw [if_pos q] at e1 e2
      cases e1
      cases e2
      exact hr _ st gr
    · rw [if_neg q] at e1 e2
      exact (s.obj l' i' o' a e1 e2).tr st gr fun _ e => e
  · rw [lk, ha] at e1
    rw [lk, ha] at e2
    by_cases q : l' = l ∧ i' = i <;> by_cases q2 : l2 = l ∧ i2 = i
    · omega
    · rw [if_pos q] at e1
      rw [if_neg q2] at e2
      cases e1
      exact absurd mp (s.dis _ _ _ e2)
    · rw [if_neg q] at e1
      rw [if_pos q2] at e2
      cases e2
      exact absurd mp (s.dis _ _ _ e1)
    · rw [if_neg q] at e1
      rw [if_neg q2] at e2
      exact s.inj _ _ _ _ a e1 e2
  · rw [hb] at e
    by_cases q : l' = l ∧ i' = i
    · rw [if_pos q] at e
      cases e
      rw [q.1]; exact hl
    · rw [if_neg q] at e
      exact s.lev _ _ _ e
  · rw [lk, ha] at e
    by_cases q : l' = l ∧ i' = i
    · rw [if_pos q] at e
      cases e
      exact s.ptrk _ mp
    · rw [if_neg q] at e
      exact s.trk _ _ _ e
  · exact s.ptrk _ (List.mem_filter.mp e).1
  · intro z
    rw [lk, ha] at e
    have z2 := List.mem_filter.mp z
    by_cases q : l' = l ∧ i' = i
    · rw [if_pos q] at e
      cases e
      simp at z2
    · rw [if_neg q] at e
      exact s.dis _ _ _ e z2.1
  · rw [lk, ha]; simp
end

/-! ### {k: v, ..} -/
def dpL : List (C × C) → Ro → Sto → R (List (D × D))
  | [], _, S => .ok [] S
  | (k, v) :: r, ρ, S => (k ρ S).bind fun x S => (v ρ S).bind fun y S => (dpL r ρ S).bind fun ps S => .ok ((x, y) :: ps) S
def mkD : List (D × D) → List Key → List D → Option (List Key × List D)
  | [], ks, ds => some (ks, ds)
  | (x, y) :: r, ks, ds => match x.key with
    | some κ => mkD r (putKs ks κ) (putA ks ds κ y)
    | none => none
def cDisp (l : List (C × C)) : C := fun ρ S => (dpL l ρ S).bind fun ps S => match mkD ps [] [] with
  | some (ks, ds) => .ok (.box (.dK ks) ds) S
  | none => .bad
def cDispN (k : Nat) (l : List (C × C)) : C := fun ρ S => (dpL l ρ S).bind fun ps S => match mkD ps [] [] with
  | some (ks, ds) => match newAt k S (.box (.dK ks) ds) with
    | some (l, i, S') => if D.les l ds = true then .ok (.ref l i) S' else .bad
    | none => .bad
  | none => .bad
abbrev RelPs (K : PySem.W.Frag) (φ : Phi) (H : Hp) : List (D × D) → List (V × V) → Prop := Paired fun p q => Rel K φ H p.1 q.1 ∧ Rel K φ H p.2 q.2
structure MPs (X : Cx) (W : WX) (pos : Pos) (ks : List (Option Expr)) (vs : List Expr) (l : List (C × C)) : Prop where
  pp : PPs X pos ks vs (l.map fun t => (rdE X W t.1, rdE X W t.2))
  len : l.length = ks.length
section
variable {X : Cx} {W : WX} {pos : Pos}
theorem mps_nil : MPs X W pos [] [] [] := ⟨pps_nil, rfl⟩
theorem mps_cons {k v : Expr} {ks : List (Option Expr)} {vs : List Expr} {ck cv : C} {l : List (C × C)} (hk : ME X W k ck) (hv : ME X W v cv) (h : MPs X W pos ks vs l) : MPs X W pos (some k :: ks) (v :: vs) ((ck, cv) :: l) :=
  ⟨pps_cons hk.pe hv.pe h.pp, by simp [h.len]⟩
theorem RelPs.mono {K : PySem.W.Frag} {φ φ' : Phi} {H H' : Hp} (e : Le φ H φ' H') {ps : List (D × D)} {vs : List (V × V)} (h : RelPs K φ H ps vs) : RelPs K φ' H' ps vs := Paired.mapP h fun _ _ q => ⟨q.1.mono e, q.2.mono e⟩
theorem pairs_imp {σ : L2.St} {Q : List (V × V) → Hp → Prop} : ∀ (l : List (C × C)) {ρ : Ro} {φ : Phi} {H : Hp} {S : Sto}, RE X.K φ H ρ σ → RS X.K φ H S → Ok X.K X.mg (RelPs X.K) φ H (fun cls d H' => W cls d σ H') Q (dpL l ρ S) → tPairs (l.map fun t => (rdE X W t.1, rdE X W t.2)) σ H Q
  | [], ρ, φ, H, S, hE, hs, h => h φ H [] (Le.refl _ _) hs .nil
  | (k, v) :: l, ρ, φ, H, S, hE, hs, h => by
    unfold dpL at h
    refine ⟨ρ, φ, S, hE, hs, Ok.step h fun x S1 φ1 H1 vx q l1 s1 rx z => ⟨ρ, φ1, S1, hE.mono l1, s1, Ok.step z fun y S2 φ2 H2 vy q2 l2 s2 ry z => ?_⟩⟩
    refine pairs_imp l ((hE.mono l1).mono l2) s2 (Ok.step z fun ps S3 φ3 H3 vs q3 l3 s3 rs z => ?_)
    exact z φ3 H3 _ (Le.refl _ _) s3 (.cons ⟨(rx.mono l2).mono l3, ry.mono l3⟩ rs)
theorem mkD_rel {K : PySem.W.Frag} {φ : Phi} {H : Hp} : ∀ {ps : List (D × D)} {qs : List (V × V)} {ks ks' : List Key} {ds ds' : List D} {vs : List V}, RelPs K φ H ps qs → mkD ps ks ds = some (ks', ds') → ks.length = vs.length → RelL K φ H ds vs →
    ∃ kvs vs', qs = kvs.map (fun kv : Key × V => (kV kv.1, kv.2)) ∧ kvs.length = ps.length ∧ ks'.length = vs'.length ∧ mergeK (ks.zip vs) kvs = ks'.zip vs' ∧ RelL K φ H ds' vs'
  | _, _, ks, ks', ds, ds', vs, .nil, h, hl, r => by
    simp only [mkD, Option.some.injEq, Prod.mk.injEq] at h
    obtain ⟨rfl, rfl⟩ := h
    exact ⟨[], vs, rfl, rfl, hl, rfl, r⟩
  | (x, y) :: ps, (u, v) :: qs, ks, ks', ds, ds', vs, .cons rp rps, h, hl, r => by
    unfold mkD at h
    cases q1 : x.key with
    | none => simp only [q1] at h; cases h
    | some κ =>
      simp only [q1] at h
      obtain ⟨kvs, vs', e1, e2, e3, e4, e5⟩ := mkD_rel rps h (putA_len (a := v) hl) (putA_rel r rp.2)
      refine ⟨(κ, v) :: kvs, vs', ?_, by simp [e2], e3, ?_, e5⟩
      · rw [List.map_cons, ← e1, ← rel_key rp.1 q1]
      · rw [← e4]
        show mergeK (putK (ks.zip vs) κ v) kvs = _
        rw [putK_zip hl]
theorem dpL_len : ∀ {l : List (C × C)} {ρ : Ro} {S S' : Sto} {ps : List (D × D)}, dpL l ρ S = .ok ps S' → ps.length = l.length
  | [], _, _, _, _, h => by cases h; rfl
  | (k, v) :: l, ρ, S, S', ps, h => by
    unfold dpL at h
    cases q1 : k ρ S with
    | err x S1 => rw [q1] at h; cases h
    | bad => rw [q1] at h; cases h
    | ok x S1 =>
      rw [q1, R.bind_ok] at h
      cases q2 : v ρ S1 with
      | err x S1 => rw [q2] at h; cases h
      | bad => rw [q2] at h; cases h
      | ok y S2 =>
        rw [q2, R.bind_ok] at h
        cases q3 : dpL l ρ S2 with
        | err x S1 => rw [q3] at h; cases h
        | bad => rw [q3] at h; cases h
        | ok ps2 S3 =>
          rw [q3, R.bind_ok] at h
          injection h with h1 h2
          rw [← h1, List.length_cons, List.length_cons, dpL_len q3]
theorem disp_imp {l : List (C × C)} {f : List Key → List D → Sto → R D} (h15 : l.length ≤ 15) {σ : L2.St} {H : Hp} {Q : VK} (h : rdE X W (fun ρ S => (dpL l ρ S).bind fun ps S => match mkD ps [] [] with
    | some (ks, ds) => f ks ds S
    | none => .bad) σ H Q)
    (k : ∀ (φ0 : Phi) (H0 : Hp) (S0 : Sto) (p : Addr) (φ2 : Phi) (H2 : Hp) (S2 : Sto) (ks : List Key) (ds : List D) (vs : List V), RS X.K φ0 H0 S0 → H0 p = none → Le φ0 H0 φ2 (upd H2 p (.dK (ks.zip vs))) → RS X.K φ2 (upd H2 p (.dK (ks.zip vs))) S2 → p ∈ φ2.p → ks.length = vs.length →
      RelL X.K φ2 (upd H2 p (.dK (ks.zip vs))) ds vs → Ok X.K X.mg (Rel X.K) φ0 H0 (fun cls d H' => W cls d σ H') Q (f ks ds S2) → Q (.ref p) (upd H2 p (.dK (ks.zip vs)))) :
    tDisp (l.map fun t => (rdE X W t.1, rdE X W t.2)) σ H Q := by
  obtain ⟨ρ, φ, S, hE, hs, h⟩ := h
  intro p hp
  have leP : Le φ H ⟨φ.r, p :: φ.p⟩ (upd H p (.dK [])) := Le.prive hp _
  refine pairs_imp l (hE.mono leP) (hs.prive hp _) ?_
  have h : Ok X.K X.mg (Rel X.K) φ H (fun cls d H' => W cls d σ H') Q ((dpL l ρ S).bind fun ps S => match mkD ps [] [] with
    | some (ks, ds) => f ks ds S
    | none => .bad) := h
  cases q : dpL l ρ S with
  | bad => rw [q] at h; exact h.elim
  | err x S1 =>
    rw [q] at h
    exact fun φ2 H2 cls d l2 s2 rx => h φ2 H2 cls d (leP.trans l2) s2 rx
  | ok ps S1 =>
    rw [q, R.bind_ok] at h
    intro φ2 H2 qs l2 s2 rps
    have mp2 : p ∈ φ2.p := l2.prv p List.mem_cons_self
    have hp2 : H2 p = some (.dK []) := l2.pst p _ List.mem_cons_self upd_same
    refine ⟨hp2, ?_⟩
    cases q2 : mkD ps [] [] with
    | none => simp only [q2] at h; exact h.elim
    | some t =>
      obtain ⟨ks, ds⟩ := t
      simp only [q2] at h
      obtain ⟨kvs, vs, e1, e2, e3, e4, e5⟩ := mkD_rel rps q2 rfl .nil
      refine ⟨kvs, e1, by rw [e2, dpL_len q]; exact h15, ?_⟩
      have e4' : mergeK [] kvs = ks.zip vs := e4
      rw [e4']
      have l3 : Le φ H φ2 (upd H2 p (.dK (ks.zip vs))) := Le.priv s2 mp2 _ φ H hp (leP.trans l2)
      exact k φ H S p φ2 H2 S1 ks ds vs hs hp l3 (s2.priv mp2 _) mp2 e3 (RelL.priv _ mp2 e5) h
theorem me_disp {ks : List (Option Expr)} {vs : List Expr} {l : List (C × C)} (h : MPs X W pos ks vs l) (hall : ks.all (·.isSome) = true := by rfl) (hl : ks.length = vs.length := by rfl) (h0 : ks ≠ [] := by exact List.cons_ne_nil _ _) (h15 : ks.length ≤ 15 := by decide) :
    ME X W (.Dict ks vs pos) (cDisp l) := by
  refine ⟨(pe_disp h.pp hall hl h0 h15).imp fun σ H Q z => disp_imp (f := fun ks ds S => .ok (.box (.dK ks) ds) S) (by rw [h.len]; exact h15) z ?_⟩
  intro φ0 H0 S0 p φ2 H2 S2 ks ds vs s0 h0 e0 s2 mp e3 r z
  refine z (φ2.out p) _ _ (Le.out s0 h0 e0) s2.out (.box ⟨e3, upd_same⟩ (by rw [upd_same]; simp) ⟨fun l i e => s2.dis l i p e mp, fun q => ?_⟩ (RelL.out r))
  have := (List.mem_filter.mp q).2
  simp at this
theorem me_dispN (k : Nat) {ks : List (Option Expr)} {vs : List Expr} {l : List (C × C)} (h : MPs X W pos ks vs l) (hall : ks.all (·.isSome) = true := by rfl) (hl : ks.length = vs.length := by rfl) (h0 : ks ≠ [] := by exact List.cons_ne_nil _ _) (h15 : ks.length ≤ 15 := by decide) :
    ME X W (.Dict ks vs pos) (cDispN k l) := by
  refine ⟨(pe_disp h.pp hall hl h0 h15).imp fun σ H Q z => disp_imp (f := fun ks ds S => match newAt k S (.box (.dK ks) ds) with
    | some (l, i, S') => if D.les l ds = true then .ok (.ref l i) S' else .bad
    | none => .bad) (by rw [h.len]; exact h15) z ?_⟩
  intro φ0 H0 S0 p φ2 H2 S2 ks ds vs s0 h0 e0 s2 mp e3 r z
  cases q : newAt k S2 (.box (.dK ks) ds) with
  | none => simp only [q] at z; exact z.elim
  | some t =>
    obtain ⟨l, i, S'⟩ := t
    simp only [q] at z
    by_cases hle : D.les l ds = true
    · simp only [hle, if_true] at z
      obtain ⟨φ', l3, s3, lk⟩ := RS.adopt (o := .box (.dK ks) ds) s0 s2 e0 h0 mp q hle fun φ' st gr => ⟨vs, ⟨e3, upd_same⟩, r.tr st gr⟩
      exact z φ' _ _ l3 s3 (.ref lk)
    · simp only [hle, Bool.false_eq_true, if_false] at z
      exact z.elim
/-- {} -/
def cEmptyK (k : Nat) : C := fun _ S => match newAt k S (.box (.dK []) []) with
  | some (l, i, S') => .ok (.ref l i) S'
  | none => .bad
def cEmpty : C := fun _ S => .ok (.box (.dK []) []) S
theorem me_emptyK (k : Nat) : ME X W (.Dict [] [] pos) (cEmptyK k) := by
  refine ⟨pe_dnewK.imp fun σ H Q h => ?_⟩
  obtain ⟨ρ, φ, S, hE, hs, h⟩ := h
  intro p hp
  unfold cEmptyK at h
  cases q : newAt k S (.box (.dK []) []) with
  | none => simp only [q] at h; exact h.elim
  | some t =>
    obtain ⟨l, i, S'⟩ := t
    simp only [q] at h
    obtain ⟨φ', le, s', hq⟩ := hs.newed (u := .dK []) (o := .box (.dK []) []) hp q rfl fun φ' le => ⟨[], ⟨rfl, upd_same⟩, .nil⟩
    exact h φ' _ _ le s' (.ref hq)
theorem me_empty : ME X W (.Dict [] [] pos) cEmpty := by
  refine ⟨pe_dnewK.imp fun σ H Q h => ?_⟩
  obtain ⟨ρ, φ, S, hE, hs, h⟩ := h
  intro p hp
  exact h φ _ _ (Le.fresh hp) (hs.laid hp) (.box ⟨rfl, by rw [upd_same]; rfl⟩ (by rw [upd_same]; simp) (hs.fresh hp) .nil)
end
end MP

/-! MP: methods of texts and lists, f-strings. -/
namespace MP
open PySem PySem.Spec PyProof.Rows L2

/-- what a method's receiver must be seen to be -/
def D.isT (T : String) (S : Sto) : D → Bool
  | .str _ => T == "str"
  | .lst _ => T == "list"
  | .rol _ => T == "list"
  | .box (.dK _) _ => T == "dict"
  | .ref l i => match look S l i with
    | some (.lst _) => T == "list"
    | some (.box (.dK _) _) => T == "dict"
    | _ => false
  | _ => false
abbrev GM := D → List D → Sto → R D
def cMeth (T : String) (g : GM) (o : C) (a : CA) : C := fun ρ S => (o ρ S).bind fun x S => if x.isT T S = true then (a ρ S).bind fun ds S => g x ds S else .bad
structure KM (X : Cx) (T : String) (name : Str) (g : GM) : Prop where
  pa : PlainAttrs T
  ex : ∃ (id : String) (r : V → List V → Hp → VK → Prop), Slot T name id ∧ typeOf (.builtin id) = pure (.type "method_descriptor") ∧ MtR X id r ∧
    ∀ (W : WX) (σ : L2.St) (φ : Phi) (H : Hp) (S : Sto) (x : D) (vx : V) (ds : List D) (vs : List V) (Q : VK), RS X.K φ H S → Rel X.K φ H x vx → RelL X.K φ H ds vs → Ok X.K X.mg (Rel X.K) φ H (fun cls d H' => W cls d σ H') Q (g x ds S) → r vx vs H Q
theorem tyV_of {K : PySem.W.Frag} {φ : Phi} {H : Hp} {S : Sto} {T : String} {x : D} {v : V} (s : RS K φ H S) (r : Rel K φ H x v) (h : x.isT T S = true) : tyV K T v H := by
  cases r with
  | str y => exact beq_iff_eq.mp h
  | lst z f w rr => exact .inl ⟨beq_iff_eq.mp h, _, SqL.of f⟩
  | rol z f rr => exact .inl ⟨beq_iff_eq.mp h, _, f.sq⟩
  | @box a vs ds b at_ n w rr =>
    cases b with
    | dK ks => exact .inr (.inr (.inl ⟨beq_iff_eq.mp h, .inl ⟨_, at_.2⟩⟩))
    | dT ks => simp [D.isT] at h
    | ins c fs => simp [D.isT] at h
  | @ref l i a e =>
    unfold D.isT at h
    cases q : look S l i with
    | none => simp [q] at h
    | some o =>
      cases o with
      | dead => simp [q] at h
      | lst xs =>
        simp only [q] at h
        obtain ⟨vs, hv, _⟩ := s.obj l i _ a q e
        exact .inl ⟨beq_iff_eq.mp h, _, SqL.of hv⟩
      | box b xs =>
        cases b with
        | dK ks =>
          simp only [q] at h
          obtain ⟨vs, hv, _⟩ := s.obj l i _ a q e
          exact .inr (.inr (.inl ⟨beq_iff_eq.mp h, .inl ⟨_, hv.2⟩⟩))
        | dT ks => simp [q] at h
        | ins c fs => simp [q] at h
  | _ => simp [D.isT] at h
section
variable {X : Cx} {W : WX} {o e : Expr} {es : List Expr} {co : C} {ca : CA} {name : Str} {T : String} {g : GM} {apos cpos : Pos}
theorem me_m0 (M : KM X T name g) (ho : ME X W o co) (hbase : attributeBase o name X.env (eval o X.env) = eval o X.env := by rfl) (hline : (apos.endLine == cpos.line) = true := by rfl) :
    ME X W (.Call (.Attribute o name apos) [] [] cpos) (cMeth T g co caNil) := by
  obtain ⟨id, r, sl, ty, hm, k⟩ := M.ex
  refine ⟨(pe_bm0 M.pa sl ty hm ho.pe hbase hline).imp fun σ H Q h => ?_⟩
  obtain ⟨ρ, φ, S, hE, hs, h⟩ := h
  refine ⟨ρ, φ, S, hE, hs, h.step fun x S1 φ1 H1 v q l s rx z => ?_⟩
  by_cases ht : x.isT T S1 = true
  · simp only [ht, if_true] at z
    exact ⟨tyV_of s rx ht, k W σ φ1 H1 S1 x v [] [] Q s rx .nil z⟩
  · simp only [ht, Bool.false_eq_true, if_false] at z
    exact z.elim
theorem me_m (M : KM X T name g) (ho : ME X W o co) (ha : MA X W (e :: es) ca) (hbase : attributeBase o name X.env (eval o X.env) = eval o X.env := by rfl)
    (hfew : ((backTo cpos (starEach (e :: es) X.env)).all (fun x => !x.1) && (backToKw cpos (keywordEach [] X.env)).all (fun x => x.1.isSome)
      && decide ((e :: es).length + ([] : List Keyword).length + (if ([] : List Keyword).isEmpty then 0 else 1) < 30)) = true := by rfl)
    (hline : (apos.endLine == cpos.line) = true := by rfl) (hs : starEach (e :: es) X.env = (false, eval e X.env) :: starEach es X.env := by rfl) (hplain : (backTo cpos (starEach es X.env)).any (·.1) = false := by rfl) :
    ME X W (.Call (.Attribute o name apos) (e :: es) [] cpos) (cMeth T g co ca) := by
  obtain ⟨id, r, sl, ty, hm, k⟩ := M.ex
  refine ⟨(pe_bm M.pa sl ty hm ho.pe ha.pa hbase hfew hline hs hplain).imp fun σ H Q h => ?_⟩
  obtain ⟨ρ, φ, S, hE, hs, h⟩ := h
  refine ⟨ρ, φ, S, hE, hs, h.step fun x S1 φ1 H1 v q l s rx z => ?_⟩
  by_cases ht : x.isT T S1 = true
  · simp only [ht, if_true] at z
    refine ⟨tyV_of s rx ht, ρ, φ1, S1, hE.mono l, s, z.step fun ds S2 φ2 H2 vs q2 l2 s2 r2 z => ?_⟩
    exact k W σ φ2 H2 S2 x v ds vs Q s2 (rx.mono l2) r2 z
  · simp only [ht, Bool.false_eq_true, if_false] at z
    exact z.elim
end

/-! ### texts -/
def strsO : List D → Option (List Str)
  | [] => some []
  | .str x :: ds => match strsO ds with
    | some ys => some (x :: ys)
    | none => none
  | _ :: _ => none
theorem strsO_rel {K : PySem.W.Frag} {φ : Phi} {H : Hp} : ∀ {ds : List D} {vs : List V} {ys : List Str}, RelL K φ H ds vs → strsO ds = some ys → vs = ys.map V.str
  | _, _, ys, .nil, h => by
    simp only [strsO, Option.some.injEq] at h
    subst h; rfl
  | d :: ds, v :: vs, ys, .cons r rs, h => by
    cases r <;> try (simp [strsO] at h; done)
    rename_i x
    unfold strsO at h
    cases q : strsO ds with
    | none => simp [q] at h
    | some zs =>
      simp only [q, Option.some.injEq] at h
      subst h
      rw [strsO_rel rs q]
      rfl
theorem rel_strs {K : PySem.W.Frag} {φ : Phi} {H : Hp} : ∀ (ys : List Str), RelL K φ H (ys.map D.str) (ys.map V.str)
  | [] => .nil
  | y :: ys => .cons (.str y) (rel_strs ys)
/-- the items of what can be walked at once -/
def D.items (S : Sto) : D → Option (List D)
  | .tup xs => some xs
  | .lst xs => some xs
  | .rol xs => some xs
  | .ref l i => match look S l i with
    | some (.lst xs) => some xs
    | _ => none
  | _ => none
theorem rel_items {K : PySem.W.Frag} {φ : Phi} {H : Hp} {S : Sto} {d : D} {v : V} {xs : List D} (s : RS K φ H S) (r : Rel K φ H d v) (h : d.items S = some xs) : ∃ a vs, v = .ref a ∧ (SqL K H a vs ∨ SqT K H a vs) ∧ RelL K φ H xs vs := by
  cases r with
  | tup z f rr => cases h; exact ⟨_, _, rfl, .inr f.sq, rr⟩
  | lst z f w rr => cases h; exact ⟨_, _, rfl, .inl (SqL.of f), rr⟩
  | rol z f rr => cases h; exact ⟨_, _, rfl, .inl f.sq, rr⟩
  | @ref l i a e =>
    unfold D.items at h
    cases q : look S l i with
    | none => simp [q] at h
    | some o =>
      cases o with
      | lst ys =>
        simp only [q, Option.some.injEq] at h
        subst h
        obtain ⟨vs, hv, _, rr⟩ := s.obj l i _ a q e
        exact ⟨a, vs, rfl, .inl (SqL.of hv), rr⟩
      | box b ys => simp [q] at h
      | dead => simp [q] at h
  | _ => simp [D.items] at h
def gJoin : GM := fun x ds S => match x, ds with
  | .str a, [y] => match y.items S with
    | some xs => match strsO xs with
      | some ys => if (ys.map (·.length)).sum + ys.length * a.length ≤ 16777216 then .ok (.str (Txt.join a ys)) S else .bad
      | none => .bad
    | none => .bad
  | _, _ => .bad
def gSplit : GM := fun x ds S => match x, ds with
  | .str a, [.str b] => if b.length ≠ 0 ∧ a.length ≤ 16000000 then .ok (.lst ((Txt.split a b).map D.str)) S else .bad
  | _, _ => .bad
def gSplit0 : GM := fun x ds S => match x, ds with
  | .str a, [] => if a.length ≤ 16000000 then .ok (.lst ((Txt.words a).map D.str)) S else .bad
  | _, _ => .bad
def gStrip : GM := fun x ds S => match x, ds with
  | .str a, [] => if a.length ≤ 16000000 then .ok (.str (Txt.strip a)) S else .bad
  | _, _ => .bad
def gStarts : GM := fun x ds S => match x, ds with
  | .str a, [.str b] => .ok (.bl (Txt.startswith a b)) S
  | _, _ => .bad
def gEnds : GM := fun x ds S => match x, ds with
  | .str a, [.str b] => .ok (.bl (Txt.endswith a b)) S
  | _, _ => .bad
def gFind : GM := fun x ds S => match x, ds with
  | .str a, [.str b] => .ok (.int (Txt.find a b)) S
  | _, _ => .bad
def gCount : GM := fun x ds S => match x, ds with
  | .str a, [.str b] => .ok (.int (Txt.count a b)) S
  | _, _ => .bad
section
variable {X : Cx}
theorem split_len (a b : Str) : True := trivial
theorem relD1 {K : PySem.W.Frag} {φ : Phi} {H : Hp} {d : D} {vs : List V} (r : RelL K φ H [d] vs) : ∃ v, vs = [v] ∧ Rel K φ H d v := by
  cases r with
  | cons r rr => cases rr; exact ⟨_, rfl, r⟩
theorem km_join : KM X "str" "join" gJoin := ⟨F.plainAttrs_str, _, _, F.slot_str_join, F.type_str_join, mt_join, fun W σ φ H S x vx ds vs Q s rx r z => by
  unfold gJoin at z
  split at z
  · rename_i a y
    cases rx
    obtain ⟨v, rfl, ry⟩ := relD1 r
    cases q : y.items S with
    | none => simp only [q] at z; exact z.elim
    | some xs =>
      simp only [q] at z
      cases q2 : strsO xs with
      | none => simp only [q2] at z; exact z.elim
      | some ys =>
        simp only [q2] at z
        by_cases hz : (ys.map (·.length)).sum + ys.length * a.length ≤ 16777216
        · simp only [hz, if_true] at z
          obtain ⟨p, vs, rfl, hp, rr⟩ := rel_items s ry q
          have e := strsO_rel rr q2
          subst e
          exact ⟨a, p, ys, rfl, rfl, hp, hz, z φ H _ (Le.refl _ _) s (.str _)⟩
        · simp only [hz, if_false] at z; exact z.elim
  · exact z.elim⟩
theorem new_strs {W : WX} {σ : L2.St} {φ : Phi} {H : Hp} {S : Sto} {ys : List Str} {Q : VK} (s : RS X.K φ H S) (hz : ys.length ≤ sizeLine) (z : Ok X.K X.mg (Rel X.K) φ H (fun cls d H' => W cls d σ H') Q (.ok (.lst (ys.map D.str)) S)) : rNewStrs ys H Q := fun p hp =>
  z φ _ _ (Le.fresh hp) (s.laid hp) (.lst (by simpa using hz) upd_same (s.fresh hp) ((rel_strs ys).laid hp))
theorem km_split : KM X "str" "split" gSplit := ⟨F.plainAttrs_str, _, _, F.slot_str_split, F.type_str_split, mt_split, fun W σ φ H S x vx ds vs Q s rx r z => by
  unfold gSplit at z
  split at z
  · rename_i a b
    cases rx
    obtain ⟨v, rfl, ry⟩ := relD1 r
    cases ry
    by_cases hz : b.length ≠ 0 ∧ a.length ≤ 16000000
    · simp only [hz, if_true, and_self, ne_eq, not_false_eq_true] at z
      have h2 : a.length + 2 ≤ sizeLine := by rw [sizeLine_eq]; omega
      exact ⟨a, b, rfl, rfl, by simpa using hz.1, h2, new_strs s (Nat.le_trans (PyProof.Rows.split_le a b) h2) z⟩
    · simp only [hz, if_false] at z; exact z.elim
  · exact z.elim⟩
theorem km_strip : KM X "str" "strip" gStrip := ⟨F.plainAttrs_str, _, _, F.slot_str_strip, F.type_str_strip, mt_strip, fun W σ φ H S x vx ds vs Q s rx r z => by
  unfold gStrip at z
  split at z
  · rename_i a
    cases rx
    cases r
    by_cases hz : a.length ≤ 16000000
    · simp only [hz, if_true] at z
      exact ⟨a, rfl, rfl, line_ge hz, z φ H _ (Le.refl _ _) s (.str _)⟩
    · simp only [hz, if_false] at z; exact z.elim
  · exact z.elim⟩
theorem km_starts : KM X "str" "startswith" gStarts := ⟨F.plainAttrs_str, _, _, F.slot_str_startswith, F.type_str_startswith, mt_startswith, fun W σ φ H S x vx ds vs Q s rx r z => by
  unfold gStarts at z
  split at z
  · cases rx
    obtain ⟨v, rfl, ry⟩ := relD1 r
    cases ry
    exact ⟨_, _, rfl, rfl, z φ H _ (Le.refl _ _) s (.bl _)⟩
  · exact z.elim⟩
theorem km_ends : KM X "str" "endswith" gEnds := ⟨F.plainAttrs_str, _, _, F.slot_str_endswith, F.type_str_endswith, mt_endswith, fun W σ φ H S x vx ds vs Q s rx r z => by
  unfold gEnds at z
  split at z
  · cases rx
    obtain ⟨v, rfl, ry⟩ := relD1 r
    cases ry
    exact ⟨_, _, rfl, rfl, z φ H _ (Le.refl _ _) s (.bl _)⟩
  · exact z.elim⟩
theorem km_find : KM X "str" "find" gFind := ⟨F.plainAttrs_str, _, _, F.slot_str_find, F.type_str_find, mt_find, fun W σ φ H S x vx ds vs Q s rx r z => by
  unfold gFind at z
  split at z
  · cases rx
    obtain ⟨v, rfl, ry⟩ := relD1 r
    cases ry
    exact ⟨_, _, rfl, rfl, z φ H _ (Le.refl _ _) s (.int _)⟩
  · exact z.elim⟩
theorem km_count : KM X "str" "count" gCount := ⟨F.plainAttrs_str, _, _, F.slot_str_count, F.type_str_count, mt_count, fun W σ φ H S x vx ds vs Q s rx r z => by
  unfold gCount at z
  split at z
  · cases rx
    obtain ⟨v, rfl, ry⟩ := relD1 r
    cases ry
    exact ⟨_, _, rfl, rfl, z φ H _ (Le.refl _ _) s (.int _)⟩
  · exact z.elim⟩

/-! ### lists -/
def gPop : GM := fun x ds S => match x, ds with
  | .ref l n, [] => match look S l n with
    | some (.lst xs) => match xs[xs.length - 1]? with
      | some y => .ok y (put S l n (.lst xs.dropLast))
      | none => .bad
    | _ => .bad
  | _, _ => .bad
theorem les_dropLast {l : Nat} : ∀ {xs : List D}, D.les l xs = true → D.les l xs.dropLast = true
  | [], _ => rfl
  | [x], _ => rfl
  | x :: y :: xs, h => by
    simp only [D.les, Bool.and_eq_true] at h
    rw [List.dropLast_cons₂]
    simp only [D.les, Bool.and_eq_true]
    exact ⟨h.1, les_dropLast (by simp only [D.les, Bool.and_eq_true]; exact h.2)⟩
theorem relL_dropLast {K : PySem.W.Frag} {φ : Phi} {H : Hp} : ∀ {ds : List D} {vs : List V}, RelL K φ H ds vs → RelL K φ H ds.dropLast vs.dropLast
  | _, _, .nil => .nil
  | _, _, .cons r .nil => .nil
  | _, _, .cons r (.cons r2 rs) => by
    rw [List.dropLast_cons₂, List.dropLast_cons₂]
    exact .cons r (relL_dropLast (.cons r2 rs))
theorem km_pop : KM X "list" "pop" gPop := ⟨F.plainAttrs_list, _, _, F.slot_list_pop, F.type_list_pop, mt_pop, fun W σ φ H S x vx ds vs Q s rx r z => by
  unfold gPop at z
  split at z
  · rename_i l n
    cases rx
    rename_i p e
    cases r
    cases q : look S l n with
    | none => simp only [q] at z; exact z.elim
    | some o =>
      cases o with
      | dead => simp only [q] at z; exact z.elim
      | box b xs => simp only [q] at z; exact z.elim
      | lst xs =>
        simp only [q] at z
        obtain ⟨vs, hv, zz, rr⟩ := s.obj l n _ p q e
        have hle : D.les l xs = true := s.lev l n _ q
        cases q2 : xs[xs.length - 1]? with
        | none => simp only [q2] at z; exact z.elim
        | some y =>
          simp only [q2] at z
          obtain ⟨v, h1, h2⟩ := rr.get q2
          rw [rr.length] at h1
          refine ⟨p, vs, v, rfl, rfl, hv, h1, z φ _ v (Le.put s e) (s.put e q (les_dropLast hle) ⟨_, upd_same, ?_, RelL.mono (Le.put s e) (relL_dropLast rr)⟩) (h2.mono (Le.put s e))⟩
          rw [List.length_dropLast]; omega
  · exact z.elim⟩
end
/-- list.index of flat values, list.index of nested ones -/
def idxD (x : D) : List D → Nat → Option Nat
  | [], _ => none
  | z :: zs, i => if PyData.eqv z.toP x.toP then some i else idxD x zs (i + 1)
theorem rel_itemsL {K : PySem.W.Frag} {φ : Phi} {H : Hp} {S : Sto} {d : D} {v : V} {xs : List D} (s : RS K φ H S) (r : Rel K φ H d v) (h : d.items S = some xs) (ht : d.isT "list" S = true) : ∃ a vs, v = .ref a ∧ SqL K H a vs ∧ RelL K φ H xs vs := by
  cases r with
  | tup z f rr => simp [D.isT] at ht
  | lst z f w rr => cases h; exact ⟨_, _, rfl, SqL.of f, rr⟩
  | rol z f rr => cases h; exact ⟨_, _, rfl, f.sq, rr⟩
  | @ref l i a e =>
    unfold D.items at h
    cases q : look S l i with
    | none => simp [q] at h
    | some o =>
      cases o with
      | lst ys =>
        simp only [q, Option.some.injEq] at h
        subst h
        obtain ⟨vs, hv, _, rr⟩ := s.obj l i _ a q e
        exact ⟨a, vs, rfl, SqL.of hv, rr⟩
      | box b ys => simp [q] at h
      | dead => simp [q] at h
  | _ => simp [D.items] at h
def gIndex : GM := fun x ds S => if x.isT "list" S = true then match ds with
  | [y] => match x.items S with
    | some xs => if SeqAt.shaped y.toP && SeqAt.shaped (.list (D.toPs xs)) then match idxD y xs 0 with
        | some j => .ok (.int j) S
        | none => .bad
      else .bad
    | none => .bad
  | _ => .bad
  else .bad
theorem idxD_at {x : D} : ∀ {xs : List D} {i j : Nat}, idxD x xs i = some j → ∃ k z, j = i + k ∧ (D.toPs xs)[k]? = some z ∧ PyData.eqv z x.toP = true ∧ ∀ m z', m < k → (D.toPs xs)[m]? = some z' → PyData.eqv z' x.toP = false
  | [], _, _, h => by cases h
  | z :: zs, i, j, h => by
    unfold idxD at h
    by_cases e : PyData.eqv z.toP x.toP = true
    · simp only [e, if_true, Option.some.injEq] at h
      exact ⟨0, z.toP, by omega, rfl, e, fun m z' hm => by omega⟩
    · simp only [e, Bool.false_eq_true, if_false] at h
      obtain ⟨k, w, h1, h2, h3, h4⟩ := idxD_at h
      refine ⟨k + 1, w, by omega, by simpa [D.toPs] using h2, h3, fun m z' hm hz => ?_⟩
      cases m with
      | zero =>
        simp only [D.toPs, List.getElem?_cons_zero, Option.some.injEq] at hz
        subst hz
        simpa using e
      | succ m => exact h4 m z' (by omega) (by simpa [D.toPs] using hz)
section
variable {X : Cx}
theorem km_index (hu : X.A.units + 65 < cLine) : KM X "list" "index" gIndex := ⟨F.plainAttrs_list, _, _, F.slot_list_index, F.type_list_index, mt_indexD hu, fun W σ φ H S x vx ds vs Q s rx r z => by
  unfold gIndex at z
  by_cases ht : x.isT "list" S = true
  case neg => simp only [ht, Bool.false_eq_true, if_false] at z; exact z.elim
  simp only [ht, if_true] at z
  split at z
  · rename_i y
    obtain ⟨v, rfl, ry⟩ := relD1 r
    cases q : x.items S with
    | none => simp only [q] at z; exact z.elim
    | some xs =>
      simp only [q] at z
      by_cases hs : (SeqAt.shaped y.toP && SeqAt.shaped (.list (D.toPs xs))) = true
      · simp only [hs, if_true] at z
        rw [Bool.and_eq_true] at hs
        cases q2 : idxD y xs 0 with
        | none => simp only [q2] at z; exact z.elim
        | some j =>
          simp only [q2] at z
          obtain ⟨k, w, e1, e2, e3, e4⟩ := idxD_at q2
          obtain ⟨a, ws, e5, e6, e7⟩ := rel_itemsL s rx q ht
          have c2 : PyData.canLayAll0 (D.toPs xs) = true := by
            have := SeqAt.canLay_of_shaped hs.2
            simpa [PyData.canLay0] using this
          have hk : j = k := by omega
          subst hk
          exact ⟨a, v, y.toP, _, j, w, e5, rfl, .lst e6 (dps_of e7 c2), dp_of ry (SeqAt.canLay_of_shaped hs.1), hs.2, hs.1, e2, e3, e4, z φ H _ (Le.refl _ _) s (.int _)⟩
      · simp only [hs, Bool.false_eq_true, if_false] at z
        exact z.elim
  · exact z.elim⟩
end
end MP

/-! MP: operators over changeable lists, f-strings, constants of the module. -/
namespace MP
open PySem PySem.Spec PyProof.Rows L2

/-- the items of a list, changeable or not (none of the written part) -/
def D.lsts (S : Sto) : D → Option (List D)
  | .lst xs => some xs
  | .ref l i => match look S l i with
    | some (.lst xs) => some xs
    | _ => none
  | _ => none
theorem rel_lsts {K : PySem.W.Frag} {φ : Phi} {H : Hp} {S : Sto} {d : D} {v : V} {xs : List D} (s : RS K φ H S) (r : Rel K φ H d v) (h : d.lsts S = some xs) : ∃ a vs, v = .ref a ∧ H a = some (.lst vs) ∧ vs.length ≤ sizeLine ∧ RelL K φ H xs vs := by
  cases r with
  | lst z f w rr => cases h; exact ⟨_, _, rfl, f, z, rr⟩
  | @ref l i a e =>
    unfold D.lsts at h
    cases q : look S l i with
    | none => simp [q] at h
    | some o =>
      cases o with
      | lst ys =>
        simp only [q, Option.some.injEq] at h
        subst h
        obtain ⟨vs, hv, z, rr⟩ := s.obj l i _ a q e
        exact ⟨a, vs, rfl, hv, z, rr⟩
      | box b ys => simp [q] at h
      | dead => simp [q] at h
  | _ => simp [D.lsts] at h
/-- a += b of lists -/
def gExt : G2 := fun x y S => match x with
  | .ref l n => match look S l n with
    | some (.lst xs) => match y.lsts S with
      | some ys => if xs.length + ys.length ≤ 16000000 ∧ D.les l (xs ++ ys) = true then .ok x (put S l n (.lst (xs ++ ys))) else .bad
      | none => .bad
    | _ => .bad
  | _ => .bad
def gIAddA : G2 := fun x y S => match x with
  | .ref _ _ => gExt x y S
  | _ => gIAdd x y S
def gCatM : G2 := fun x y S => match x.lsts S with
  | some xs => match y.lsts S with
    | some ys => if xs.length + ys.length ≤ 16000000 then .ok (.lst (xs ++ ys)) S else .bad
    | none => .bad
  | none => .bad
def gAddA : G2 := fun x y S => match x.lsts S with
  | some _ => gCatM x y S
  | none => gAdd x y S
def gEqT : G2 := fun x y S => if SeqAt.shaped (x.top S).toP && SeqAt.shaped (y.top S).toP then .ok (.bl (PyData.eqv (x.top S).toP (y.top S).toP)) S else .bad
def gNeT : G2 := fun x y S => if SeqAt.shaped (x.top S).toP && SeqAt.shaped (y.top S).toP then .ok (.bl (!PyData.eqv (x.top S).toP (y.top S).toP)) S else .bad
def D.isRef : D → Bool
  | .ref _ _ => true
  | _ => false
def gEqA : G2 := fun x y S => if x.isRef || y.isRef then gEqT x y S else gEq x y S
def gNeA : G2 := fun x y S => if x.isRef || y.isRef then gNeT x y S else gNe x y S
section
variable {X : Cx}
theorem os_ext : OS X (inplaceOp .Add) gExt := by
  refine ⟨_, iop_ext, fun W σ φ H S x y vx vy Q s rx ry z => ?_⟩
  unfold gExt at z
  split at z
  · rename_i l n
    cases rx
    rename_i p e
    cases q : look S l n with
    | none => simp only [q] at z; exact z.elim
    | some o =>
      cases o with
      | dead => simp only [q] at z; exact z.elim
      | box b xs => simp only [q] at z; exact z.elim
      | lst xs =>
        simp only [q] at z
        obtain ⟨vs, hv, zz, rr⟩ := s.obj l n _ p q e
        cases q2 : y.lsts S with
        | none => simp only [q2] at z; exact z.elim
        | some ys =>
          simp only [q2] at z
          by_cases h : xs.length + ys.length ≤ 16000000 ∧ D.les l (xs ++ ys) = true
          · simp only [h, and_self, if_true] at z
            obtain ⟨b, ws, rfl, hb, _, rw'⟩ := rel_lsts s ry q2
            have hl : vs.length + ws.length ≤ 16000000 := by rw [← rr.length, ← rw'.length]; exact h.1
            refine ⟨p, b, vs, ws, rfl, rfl, hv, hb, by rw [sizeLine_eq]; omega, ?_⟩
            exact z φ _ _ (Le.put s e) (s.put e q h.2 ⟨_, upd_same, by rw [List.length_append, sizeLine_eq]; omega, RelL.mono (Le.put s e) (rr.append rw')⟩) (.ref e)
          · simp only [h, if_false] at z
            exact z.elim
  · exact z.elim
theorem osi_addA : OS X (inplaceOp .Add) gIAddA := OS.or osi_add os_ext fun x y S => by
  unfold gIAddA
  cases x <;> first | exact .inl rfl | exact .inr rfl
theorem os_catM : OS X (binaryOp .Add) gCatM := by
  refine ⟨_, op_cat, fun W σ φ H S x y vx vy Q s rx ry z => ?_⟩
  unfold gCatM at z
  cases q : x.lsts S with
  | none => simp only [q] at z; exact z.elim
  | some xs =>
    simp only [q] at z
    cases q2 : y.lsts S with
    | none => simp only [q2] at z; exact z.elim
    | some ys =>
      simp only [q2] at z
      by_cases h : xs.length + ys.length ≤ 16000000
      · simp only [h, if_true] at z
        obtain ⟨a, vs, rfl, ha, _, r1⟩ := rel_lsts s rx q
        obtain ⟨b, ws, rfl, hb, _, r2⟩ := rel_lsts s ry q2
        have hl : vs.length + ws.length ≤ 16000000 := by rw [← r1.length, ← r2.length]; exact h
        refine ⟨a, b, vs, ws, rfl, rfl, ha, hb, line_ge hl, fun p hp => ?_⟩
        exact z φ _ _ (Le.fresh hp) (s.laid hp) (.lst (by rw [List.length_append]; exact line_ge hl) upd_same (s.fresh hp) ((r1.append r2).laid hp))
      · simp only [h, if_false] at z
        exact z.elim
theorem os_addA : OS X (binaryOp .Add) gAddA := OS.or os_catM os_add fun x y S => by
  unfold gAddA
  cases x.lsts S with
  | none => exact .inr rfl
  | some p => exact .inl rfl
theorem dp_top {φ : Phi} {H : Hp} {S : Sto} {d : D} {v : V} (s : RS X.K φ H S) (r : Rel X.K φ H d v) (h : PyData.canLay0 (d.top S).toP = true) : Dp X.K H v (d.top S).toP := by
  rcases rel_top s r with ⟨a, vs, ds, e1, rfl, e3, e4, e5⟩ | e
  · rw [e1] at h ⊢
    exact .lst (SqL.of e3) (dps_of e5 (by simpa [D.toP, PyData.canLay0] using h))
  · rw [e] at h ⊢
    exact dp_of r h
theorem os_eqT (hu : X.A.units + 64 < cLine) : OS X (compareOp .Eq) gEqT := by
  refine ⟨_, op_eqD hu, fun W σ φ H S x y vx vy Q s rx ry z => ?_⟩
  unfold gEqT at z
  by_cases h : (SeqAt.shaped (x.top S).toP && SeqAt.shaped (y.top S).toP) = true
  · simp only [h, if_true] at z
    rw [Bool.and_eq_true] at h
    exact ⟨_, _, dp_top s rx (SeqAt.canLay_of_shaped h.1), dp_top s ry (SeqAt.canLay_of_shaped h.2), h.1, h.2, z φ H _ (Le.refl _ _) s (.bl _)⟩
  · simp only [h] at z
    exact z.elim
theorem os_neT (hu : X.A.units + 64 < cLine) : OS X (compareOp .NotEq) gNeT := by
  refine ⟨_, op_neD hu, fun W σ φ H S x y vx vy Q s rx ry z => ?_⟩
  unfold gNeT at z
  by_cases h : (SeqAt.shaped (x.top S).toP && SeqAt.shaped (y.top S).toP) = true
  · simp only [h, if_true] at z
    rw [Bool.and_eq_true] at h
    exact ⟨_, _, dp_top s rx (SeqAt.canLay_of_shaped h.1), dp_top s ry (SeqAt.canLay_of_shaped h.2), h.1, h.2, z φ H _ (Le.refl _ _) s (.bl _)⟩
  · simp only [h] at z
    exact z.elim
theorem os_eqA (hu : X.A.units + 64 < cLine) : OS X (compareOp .Eq) gEqA := OS.or (os_eqT hu) (os_eq hu) fun x y S => by
  unfold gEqA
  by_cases h : (x.isRef || y.isRef) = true
  · exact .inl (by simp [h])
  · exact .inr (by simp [h])
theorem os_neA (hu : X.A.units + 64 < cLine) : OS X (compareOp .NotEq) gNeA := OS.or (os_neT hu) (os_ne hu) fun x y S => by
  unfold gNeA
  by_cases h : (x.isRef || y.isRef) = true
  · exact .inl (by simp [h])
  · exact .inr (by simp [h])
end

/-! ### f'..' -/
def cFmt (c : C) : C := fun ρ S => (c ρ S).bind fun d S => match d with
  | .str y => if y.length ≤ 16000000 then .ok (.str y) S else .bad
  | .int i => if i.natAbs.log2 < 1920 then .ok (.str (toString i)) S else .bad
  | _ => .bad
def jsL : List C → Str → Ro → Sto → R Str
  | [], acc, _, S => .ok acc S
  | c :: cs, acc, ρ, S => (c ρ S).bind fun d S => match d with
    | .str y => if (acc ++ y).length ≤ 16000000 then jsL cs (acc ++ y) ρ S else .bad
    | _ => .bad
def cJs (cs : List C) : C := fun ρ S => (jsL cs Str.empty ρ S).bind fun out S => .ok (.str out) S
structure MJ (X : Cx) (W : WX) (es : List Expr) (cs : List C) : Prop where
  pj : PJ X es (cs.map (rdE X W))
section
variable {X : Cx} {W : WX} {e : Expr} {es : List Expr} {c : C} {cs : List C} {pos : Pos}
theorem mj_nil : MJ X W [] [] := ⟨.nil⟩
theorem mj_cons (h : ME X W e c) (r : MJ X W es cs) : MJ X W (e :: es) (c :: cs) := ⟨.cons h.pe r.pj⟩
theorem me_fmt (h : ME X W e c) : ME X W (.FormattedValue e (-1) none pos) (cFmt c) := by
  refine ⟨(pe_fmt h.pe).imp fun σ H Q h => ?_⟩
  obtain ⟨ρ, φ, S, hE, hs, h⟩ := h
  refine ⟨ρ, φ, S, hE, hs, h.step fun d S1 φ1 H1 v q l s r z => ?_⟩
  cases r <;> try exact z.elim
  · rename_i i
    by_cases hi : i.natAbs.log2 < 1920
    · simp only [hi, if_true] at z
      exact .inr ⟨i, rfl, hi, z φ1 H1 _ (Le.refl _ _) s (.str _)⟩
    · simp only [hi, if_false] at z; exact z.elim
  · rename_i y
    by_cases hi : y.length ≤ 16000000
    · simp only [hi, if_true] at z
      exact .inl ⟨y, rfl, line_ge hi, z φ1 H1 _ (Le.refl _ _) s (.str _)⟩
    · simp only [hi, if_false] at z; exact z.elim
theorem js_imp {σ : L2.St} {Q : Str → Hp → Prop} : ∀ (cs : List C) {acc : Str} {ρ : Ro} {φ : Phi} {H : Hp} {S : Sto}, RE X.K φ H ρ σ → RS X.K φ H S → Ok X.K X.mg (fun _ _ (a b : Str) => a = b) φ H (fun cls d H' => W cls d σ H') Q (jsL cs acc ρ S) → tJs (cs.map (rdE X W)) acc σ H Q
  | [], acc, ρ, φ, H, S, hE, hs, h => h φ H acc (Le.refl _ _) hs rfl
  | c :: cs, acc, ρ, φ, H, S, hE, hs, h => by
    unfold jsL at h
    refine ⟨ρ, φ, S, hE, hs, Ok.step h fun d S1 φ1 H1 v q l s r z => ?_⟩
    cases r <;> try exact z.elim
    rename_i y
    by_cases hi : (acc ++ y).length ≤ 16000000
    · simp only [hi, if_true] at z
      exact ⟨y, rfl, line_ge hi, js_imp cs (hE.mono l) s z⟩
    · simp only [hi, if_false] at z; exact z.elim
theorem me_js {e2 : Expr} {rest : List Expr} (h : MJ X W (e :: e2 :: rest) cs) : ME X W (.JoinedStr (e :: e2 :: rest) pos) (cJs cs) := by
  refine ⟨(pe_joined h.pj).imp fun σ H Q h => ?_⟩
  obtain ⟨ρ, φ, S, hE, hs, h⟩ := h
  refine js_imp cs hE hs (Ok.step (rel := fun _ _ (a b : Str) => a = b) h fun out S1 φ1 H1 v q l s r z => ?_)
  subst r
  exact z φ1 H1 _ (Le.refl _ _) s (.str _)
theorem me_js1 (h : ME X W e c) : ME X W (.JoinedStr [e] pos) c := ⟨(pe_joined1 h.pe)⟩
end

/-! ### len -/
def gLenD : List D → Sto → R D := fun ds S => match ds with
  | [x] => match x.dict S with
    | some (ks, _) => .ok (.int ks.length) S
    | none => .bad
  | _ => .bad
def gLenA : List D → Sto → R D := fun ds S => match ds with
  | [x] => match x.dict S with
    | some _ => gLenD ds S
    | none => gLen ds S
  | _ => .bad
section
variable {X : Cx}
theorem ks_lenD : KS X (.builtin "len") gLenD := by
  refine ⟨_, call_lenD, fun W σ φ H S ds vs Q s r z => ?_⟩
  unfold gLenD at z
  split at z
  · rename_i x
    obtain ⟨v, rfl, rx⟩ := relD1 r
    cases q : x.dict S with
    | none => simp only [q] at z; exact z.elim
    | some t =>
      obtain ⟨ks, ds⟩ := t
      simp only [q] at z
      obtain ⟨a, vs, rfl, e2, e3, e4⟩ := rel_dict s rx q
      refine ⟨a, _, rfl, e2, ?_⟩
      rw [List.length_zip, ← e3, Nat.min_self]
      exact z φ H _ (Le.refl _ _) s (.int _)
  · exact z.elim
theorem ks_lenA : KS X (.builtin "len") gLenA := KS.or ks_lenD ks_len fun ds S => by
  unfold gLenA
  split
  · rename_i x
    cases x.dict S with
    | none => exact .inr rfl
    | some t => exact .inl rfl
  · rename_i h
    refine .inl ?_
    unfold gLenD
    split
    · exact absurd rfl (h _)
    · rfl
end
end MP

/-! MP: constants of the module: tuples, dicts with text keys. -/
namespace MP
open PySem PySem.Spec PyProof.Rows L2

def mapP {α β : Type} (f : α → Option β) : List α → Option (List β)
  | [] => some []
  | x :: xs => match f x with
    | some y => match mapP f xs with
      | some ys => some (y :: ys)
      | none => none
    | none => none
/-- a value of the written part as a tree -/
def kD (K : PySem.W.Frag) : Nat → Value → Option D
  | 0, _ => none
  | n + 1, v => match v with
    | .none => some .non
    | .bool b => some (.bl b)
    | .int i _ => some (.int i)
    | .str x _ => some (.str x)
    | .ref a => match K.lookup a with
      | some ⟨.type "tuple", _, .seq its _, _⟩ => if its.size ≤ 16000000 then match mapP (kD K n) its.toList with
        | some ds => some (.tup ds)
        | none => none
        else none
      | _ => none
    | _ => none
theorem mapP_kD {K : PySem.W.Frag} {n : Nat} (ih : ∀ {u : Value} {d : D}, kD K n u = some d → ∃ v, RelV v u ∧ ∀ φ H, Rel K φ H d v) : ∀ {us : List Value} {ds : List D}, mapP (kD K n) us = some ds → ∃ vs, Vals vs us ∧ ∀ φ H, RelL K φ H ds vs
  | [], ds, h => by
    simp only [mapP, Option.some.injEq] at h
    subst h
    exact ⟨[], .nil, fun _ _ => .nil⟩
  | u :: us, ds, h => by
    unfold mapP at h
    cases q : kD K n u with
    | none => simp [q] at h
    | some d =>
      simp only [q] at h
      cases q2 : mapP (kD K n) us with
      | none => simp [q2] at h
      | some es =>
        simp only [q2, Option.some.injEq] at h
        subst h
        obtain ⟨v, h1, h2⟩ := ih q
        obtain ⟨vs, h3, h4⟩ := mapP_kD ih q2
        exact ⟨v :: vs, .cons h1 h3, fun φ H => .cons (h2 φ H) (h4 φ H)⟩
theorem kD_rel {K : PySem.W.Frag} : ∀ (n : Nat) {u : Value} {d : D}, kD K n u = some d → ∃ v, RelV v u ∧ ∀ φ H, Rel K φ H d v
  | 0, _, _, h => by cases h
  | n + 1, u, d, h => by
    unfold kD at h
    split at h
    · cases h; exact ⟨.non, rfl, fun _ _ => .non⟩
    · cases h; exact ⟨.bl _, rfl, fun _ _ => .bl _⟩
    · cases h; exact ⟨.int _, ⟨_, rfl⟩, fun _ _ => .int _⟩
    · cases h; exact ⟨.str _, ⟨_, rfl⟩, fun _ _ => .str _⟩
    · rename_i a
      split at h
      · rename_i o dd its k sl hl
        by_cases hz : its.size ≤ 16000000
        · simp only [hz, if_true] at h
          cases q : mapP (kD K n) its.toList with
          | none => simp [q] at h
          | some ds =>
            simp only [q, Option.some.injEq] at h
            subst h
            obtain ⟨vs, h1, h2⟩ := mapP_kD (fun h => kD_rel n h) q
            have hs : its.size ≤ sizeLine := by rw [sizeLine_eq]; omega
            have hlen : vs.length ≤ sizeLine := by
              rw [h1.length, Array.length_toList]; exact hs
            exact ⟨.ref a, rfl, fun φ H => .tup hlen (.inr (.inr ⟨_, its, _, hl, rfl, rfl, hs, h1⟩)) (h2 φ H)⟩
        · simp [hz] at h
      · cases h
    · cases h
/-- a constant that is a tree -/
def ConOk (K : PySem.W.Frag) (mg : Str → Option Value) (x : Str) (d : D) : Prop := ∃ u v, mg x = some u ∧ RelV v u ∧ ∀ φ H, Rel K φ H d v
theorem con_of {K : PySem.W.Frag} {mg : Str → Option Value} {x : Str} {u : Value} {d : D} {n : Nat} (hm : mg x = some u) (h : kD K n u = some d) : ConOk K mg x d :=
  let ⟨v, h1, h2⟩ := kD_rel n h
  ⟨u, v, hm, h1, h2⟩
theorem me_con {X : Cx} {W : WX} {x : Str} {pos : Pos} {d : D} (h : ConOk X.K X.mg x d) (hg : Gl X x) (hd : (x == ("__debug__" : Str)) = false := by decide) : ME X W (.Name x pos) (cK d) := by
  obtain ⟨u, v, h1, h2, h3⟩ := h
  exact me_glob hg h1 h2 h3 hd

/-! ### dicts with text keys -/
def tabD (K : PySem.W.Frag) (n : Nat) : List DictEntry → Option (List (Str × D))
  | [] => some []
  | e :: es => match e.key with
    | .str x _ => match kD K n e.val with
      | some d => match tabD K n es with
        | some r => some ((x, d) :: r)
        | none => none
      | none => none
    | _ => none
def kTab (K : PySem.W.Frag) (n : Nat) (a : Addr) : Option (List (Str × D)) := match K.lookup a with
  | some ⟨.type "dict", none, .dict es _, #[]⟩ => if a == sysModules then none else tabD K n es.toList
  | _ => none
structure TabOk (K : PySem.W.Frag) (w : World) (mg : Str → Option Value) (x : Str) (t : List (Str × D)) : Prop where
  ex : ∃ a es n k, mg x = some (.ref a) ∧ K.lookup a = some ⟨.type "dict", none, .dict es n, #[]⟩ ∧ (a == sysModules) = false ∧ PySem.W.KeysLit w.params es.toList ∧ tabD K k es.toList = some t
/-- the hashes of the entries, as told -/
def hashesD : List DictEntry → List Int := List.map (·.hash)
def hashesT (P : Params) (t : List (Str × D)) : List Int := t.map fun p => PyData.keyHash P p.1
theorem keysLit_tab {K : PySem.W.Frag} {P : Params} {n : Nat} : ∀ {es : List DictEntry} {t : List (Str × D)}, tabD K n es = some t → hashesD es = hashesT P t → PySem.W.KeysLit P es
  | [], _, _, _ => trivial
  | e :: es, t, h, q => by
    unfold tabD at h
    split at h
    · rename_i x tk hk
      cases q1 : kD K n e.val with
      | none => simp [q1] at h
      | some d =>
        simp only [q1] at h
        cases q2 : tabD K n es with
        | none => simp [q2] at h
        | some r =>
          simp only [q2, Option.some.injEq] at h
          subst h
          simp only [hashesD, hashesT, List.map_cons, List.cons.injEq] at q
          exact ⟨⟨x, tk, hk, q.1⟩, keysLit_tab q2 q.2⟩
    · cases h
theorem tab_of {K : PySem.W.Frag} {w : World} {mg : Str → Option Value} {x : Str} {a : Addr} {es : Array DictEntry} {n k : Nat} {t : List (Str × D)} (hm : mg x = some (.ref a)) (hl : K.lookup a = some ⟨.type "dict", none, .dict es n, #[]⟩) (hs : (a == sysModules) = false)
    (ht : tabD K k es.toList = some t) (hh : hashesD es.toList = hashesT w.params t) : TabOk K w mg x t := ⟨a, es, n, k, hm, hl, hs, keysLit_tab ht hh, ht⟩
def tabGet (t : List (Str × D)) (x : Str) : Option D := match t with
  | [] => none
  | (y, d) :: r => if y = x then some d else tabGet r x
theorem tab_find {K : PySem.W.Frag} {k : Nat} {x : Str} : ∀ {es : List DictEntry} {t : List (Str × D)}, tabD K k es = some t →
    (match tabGet t x with
      | some d => ∃ e v, es.find? (·.key.isStr x) = some e ∧ RelV v e.val ∧ ∀ φ H, Rel K φ H d v
      | none => es.find? (·.key.isStr x) = none ∧ es.any (·.refKey) = false)
  | [], t, h => by
    simp only [tabD, Option.some.injEq] at h
    subst h
    exact ⟨rfl, rfl⟩
  | e :: es, t, h => by
    unfold tabD at h
    split at h
    · rename_i y tk hk
      cases q1 : kD K k e.val with
      | none => simp [q1] at h
      | some d =>
        simp only [q1] at h
        cases q2 : tabD K k es with
        | none => simp [q2] at h
        | some r =>
          simp only [q2, Option.some.injEq] at h
          subst h
          have ih := tab_find (x := x) q2
          have hks : e.key.isStr x = decide (y = x) := by
            rw [hk]
            show (y == x) = decide (y = x)
            by_cases z : y = x <;> simp [z]
          unfold tabGet
          by_cases z : y = x
          · simp only [z, if_true]
            obtain ⟨v, h1, h2⟩ := kD_rel k q1
            exact ⟨e, v, by rw [List.find?_cons, hks]; simp [z], h1, h2⟩
          · simp only [z, if_false]
            have hf : (e :: es).find? (·.key.isStr x) = es.find? (·.key.isStr x) := by rw [List.find?_cons, hks]; simp [z]
            rw [hf]
            cases q3 : tabGet r x with
            | none =>
              rw [q3] at ih
              refine ⟨ih.1, ?_⟩
              rw [List.any_cons, ih.2]
              show (DictEntry.refKey e || false) = false
              unfold DictEntry.refKey
              rw [hk]; rfl
            | some d' =>
              rw [q3] at ih
              exact ih
    · cases h
def cTget (t : List (Str × D)) (c : C) : C := fun ρ S => (c ρ S).bind fun d S => match d with
  | .str x => match tabGet t x with
    | some v => .ok v S
    | none => .bad
  | _ => .bad
def cTin (t : List (Str × D)) (c : C) : C := fun ρ S => (c ρ S).bind fun d S => match d with
  | .str x => .ok (.bl (tabGet t x).isSome) S
  | _ => .bad
def cTnotIn (t : List (Str × D)) (c : C) : C := fun ρ S => (c ρ S).bind fun d S => match d with
  | .str x => .ok (.bl (!(tabGet t x).isSome)) S
  | _ => .bad
def cTg1 (t : List (Str × D)) (c : C) : C := fun ρ S => (c ρ S).bind fun d S => match d with
  | .str x => .ok ((tabGet t x).getD .non) S
  | _ => .bad
def cTg2 (t : List (Str × D)) (c e : C) : C := fun ρ S => (c ρ S).bind fun d S => (e ρ S).bind fun y S => match d with
  | .str x => .ok ((tabGet t x).getD y) S
  | _ => .bad
section
variable {X : Cx} {W : WX} {x : Str} {e f : Expr} {ce cf : C} {p pos apos cpos : Pos} {t : List (Str × D)}
theorem nsIn_tab {K : PySem.W.Frag} {a : Addr} {es : Array DictEntry} {n k : Nat} {t : List (Str × D)} (hl : K.lookup a = some ⟨.type "dict", none, .dict es n, #[]⟩) (ht : tabD K k es.toList = some t) (z : Str) :
    match tabGet t z with
    | some d => ∃ u v, PySem.W.nsIn K a z = some (some u) ∧ RelV v u ∧ ∀ φ H, Rel K φ H d v
    | none => PySem.W.nsIn K a z = some none := by
  have q := tab_find (x := z) ht
  cases h : tabGet t z with
  | none =>
    rw [h] at q
    unfold PySem.W.nsIn
    rw [hl]
    dsimp only
    rw [q.1]
    dsimp only
    rw [q.2]
    rfl
  | some d =>
    rw [h] at q
    obtain ⟨en, v, h1, h2, h3⟩ := q
    refine ⟨en.val, v, ?_, h2, h3⟩
    unfold PySem.W.nsIn
    rw [hl]
    dsimp only
    rw [h1]
theorem me_tget (T : TabOk X.K X.w X.mg x t) (hg : Gl X x) (he : ME X W e ce) (hd : (x == ("__debug__" : Str)) = false := by decide) (hs : PlainIx e := by exact fun _ _ => rfl) : ME X W (.Subscript (.Name x p) e pos) (cTget t ce) := by
  obtain ⟨a, es, n, k, hm, hl, low, lit, ht⟩ := T.ex
  refine ⟨(pe_ix ix_kdict (pe_glob (v := .ref a) hg hm rfl hd) he.pe hs).imp fun σ H Q h => ?_⟩
  obtain ⟨ρ, φ, S, hE, hS, h⟩ := h
  refine ⟨ρ, φ, S, hE, hS, h.step fun d S1 φ1 H1 v q l s r z => ?_⟩
  cases r <;> try exact z.elim
  rename_i y
  have nt := nsIn_tab hl ht y
  cases q2 : tabGet t y with
  | none => simp only [q2] at z; exact z.elim
  | some d =>
    rw [q2] at nt
    simp only [q2] at z
    obtain ⟨u, v, h1, h2, h3⟩ := nt
    exact ⟨a, y, v, rfl, rfl, ⟨es, n, u, hl, lit, h1, h2⟩, z φ1 H1 v (Le.refl _ _) s (h3 _ _)⟩
theorem tin_imp {a : Addr} {es : Array DictEntry} {n k : Nat} {neg : Bool} (hl : X.K.lookup a = some ⟨.type "dict", none, .dict es n, #[]⟩) (ht : tabD X.K k es.toList = some t) {σ : L2.St} {H : Hp} {Q : VK}
    (h : rdE X W (fun ρ S => (ce ρ S).bind fun d S => match d with
      | .str x => .ok (.bl (neg ^^ (tabGet t x).isSome)) S
      | _ => .bad) σ H Q) : rdE X W ce σ H fun x H1 => ∃ (z : Str) (r : Option Value), x = .str z ∧ (V.ref a) = .ref a ∧ PySem.W.nsIn X.K a z = some r ∧ Q (.bl (neg ^^ r.isSome)) H1 := by
  obtain ⟨ρ, φ, S, hE, hS, h⟩ := h
  refine ⟨ρ, φ, S, hE, hS, h.step fun d S1 φ1 H1 v q l s r z => ?_⟩
  cases r <;> try exact z.elim
  rename_i y
  have nt := nsIn_tab hl ht y
  cases q2 : tabGet t y with
  | none =>
    rw [q2] at nt
    simp only [q2] at z
    exact ⟨y, none, rfl, rfl, nt, z φ1 H1 _ (Le.refl _ _) s (.bl _)⟩
  | some d =>
    rw [q2] at nt
    simp only [q2] at z
    obtain ⟨u, v, h1, h2, h3⟩ := nt
    exact ⟨y, some u, rfl, rfl, h1, z φ1 H1 _ (Le.refl _ _) s (.bl _)⟩
theorem cTin_eq : cTin t ce = fun ρ S => (ce ρ S).bind fun d S => match d with
      | .str x => .ok (.bl (false ^^ (tabGet t x).isSome)) S
      | _ => .bad := by
  funext ρ S
  simp [cTin]
theorem cTnotIn_eq : cTnotIn t ce = fun ρ S => (ce ρ S).bind fun d S => match d with
      | .str x => .ok (.bl (true ^^ (tabGet t x).isSome)) S
      | _ => .bad := by
  funext ρ S
  simp [cTnotIn]
theorem me_tin (T : TabOk X.K X.w X.mg x t) (hg : Gl X x) (he : ME X W e ce) (hm2 : behindInMarks .In (.Name x p) = false := by rfl) (hd : (x == ("__debug__" : Str)) = false := by decide) : ME X W (.Compare e [.In] [.Name x p] pos) (cTin t ce) := by
  obtain ⟨a, es, n, k, hm, hl, low, lit, ht⟩ := T.ex
  refine ⟨(pe_cmpR (op_in_kd ⟨hl, lit, low⟩) he.pe (pe_glob (v := .ref a) hg hm rfl hd) hm2).imp fun σ H Q h => ?_⟩
  rw [cTin_eq] at h
  have := tin_imp hl ht h
  simpa [tOp, tC] using this
theorem me_tnotIn (T : TabOk X.K X.w X.mg x t) (hg : Gl X x) (he : ME X W e ce) (hm2 : behindInMarks .NotIn (.Name x p) = false := by rfl) (hd : (x == ("__debug__" : Str)) = false := by decide) : ME X W (.Compare e [.NotIn] [.Name x p] pos) (cTnotIn t ce) := by
  obtain ⟨a, es, n, k, hm, hl, low, lit, ht⟩ := T.ex
  refine ⟨(pe_cmpR (op_notIn_kd ⟨hl, lit, low⟩) he.pe (pe_glob (v := .ref a) hg hm rfl hd) hm2).imp fun σ H Q h => ?_⟩
  rw [cTnotIn_eq] at h
  have := tin_imp hl ht h
  simpa [tOp, tC] using this
theorem mt_tin (T : TabOk X.K X.w X.mg x t) (hg : Gl X x) (he : ME X W e ce) (hm2 : behindInMarks .In (.Name x p) = false := by rfl) (hd : (x == ("__debug__" : Str)) = false := by decide) : MT X W (.Compare e [.In] [.Name x p] pos) (cTB (cTin t ce)) := by
  obtain ⟨a, es, n, k, hm, hl, low, lit, ht⟩ := T.ex
  refine ⟨(pt_cmpR (op_in_kd ⟨hl, lit, low⟩) he.pe (pe_glob (v := .ref a) hg hm rfl hd) hm2).imp fun σ H Q h => ?_⟩
  have h := rdT_of (t := cTB (cTin t ce)) h
  rw [cTin_eq] at h
  have := tin_imp hl ht h
  simpa [tTest, tOp, tC] using this
theorem mt_tnotIn (T : TabOk X.K X.w X.mg x t) (hg : Gl X x) (he : ME X W e ce) (hm2 : behindInMarks .NotIn (.Name x p) = false := by rfl) (hd : (x == ("__debug__" : Str)) = false := by decide) : MT X W (.Compare e [.NotIn] [.Name x p] pos) (cTB (cTnotIn t ce)) := by
  obtain ⟨a, es, n, k, hm, hl, low, lit, ht⟩ := T.ex
  refine ⟨(pt_cmpR (op_notIn_kd ⟨hl, lit, low⟩) he.pe (pe_glob (v := .ref a) hg hm rfl hd) hm2).imp fun σ H Q h => ?_⟩
  have h := rdT_of (t := cTB (cTnotIn t ce)) h
  rw [cTnotIn_eq] at h
  have := tin_imp hl ht h
  simpa [tTest, tOp, tC] using this
/-- x.get(e), x.get(e, f) of a module's dict -/
theorem tg_at {a : Addr} {es : Array DictEntry} {n : Nat} {pins : List (Addr × Obj)} {σ : L2.St} {H : Hp} {s : Shared} (I : Inv X pins σ H s) (hl : X.K.lookup a = some ⟨.type "dict", none, .dict es n, #[]⟩) (lit : PySem.W.KeysLit X.w.params es.toList) :
    s.TypeIs (.ref a) "dict" ∧ (∀ b, Value.ref a = .ref b → ∃ ob, s.heap.get? b = some ob ∧ ob.dict = none) :=
  ⟨(PySem.W.mapOf_K (prog := X.prog) (w := X.w) I.kIn hl lit).typeIs, fun b q => by cases q; exact ⟨_, I.kIn _ _ hl, rfl⟩⟩
theorem me_tg1 (T : TabOk X.K X.w X.mg x t) (hg : Gl X x) (he : ME X W e ce) (hd : (x == ("__debug__" : Str)) = false := by decide) (m : M1 X (.Name x p) "get" apos e cpos := by exact ⟨rfl, rfl, rfl, rfl⟩) : ME X W (.Call (.Attribute (.Name x p) "get" apos) [e] [] cpos) (cTg1 t ce) := by
  obtain ⟨a, es, n, k, hm, hl, low, lit, ht⟩ := T.ex
  refine ⟨⟨fun pins s σ H Q I h => ?_⟩⟩
  refine wpAny_Call_method m.base m.few m.line PySem.F.plainAttrs_dict PySem.F.slot_dict_get PySem.F.type_dict_get (ld_glob I hg hm ?_ hd)
  obtain ⟨t1, t2⟩ := tg_at I hl lit
  refine ⟨t1, t2, ?_⟩
  rw [m.trees]
  obtain ⟨ρ, φ, S, hE, hS, h⟩ := h
  have rd : rdE X W ce σ H fun y H2 => ∃ z, y = .str z ∧ ∃ r, PySem.W.nsIn X.K a z = some r ∧ ∀ w', (∀ u, r = some u → w' = u) → (r = none → w' = .none) → ∃ v, RelV v w' ∧ Q v H2 := by
    refine ⟨ρ, φ, S, hE, hS, Ok.step h fun d S1 φ1 H1 v q l s r z => ?_⟩
    cases r <;> try exact z.elim
    rename_i y
    have nt := nsIn_tab hl ht y
    cases q2 : tabGet t y with
    | none =>
      rw [q2] at nt
      simp only [q2] at z
      refine ⟨y, rfl, none, nt, fun w' _ h2 => ⟨.non, ?_, z φ1 H1 _ (Le.refl _ _) s .non⟩⟩
      rw [h2 rfl]; rfl
    | some d =>
      rw [q2] at nt
      simp only [q2] at z
      obtain ⟨u, v, h1, h2, h3⟩ := nt
      refine ⟨y, rfl, some u, h1, fun w' h4 _ => ⟨v, ?_, z φ1 H1 v (Le.refl _ _) s (h3 _ _)⟩⟩
      rw [h4 u rfl]; exact h2
  refine Calls.callWith_builtin rfl (Calls.evalArgs_plain (Calls.spliced_cons (thn (he.pe.run pins s σ H _ I rd) fun iv s2 ⟨y, H2, I2, ry, z, ey, r, hr, q2⟩ => Calls.spliced_nil ?_)))
  subst ey
  obtain ⟨tk, rfl⟩ := ry
  have hmap := PySem.W.mapOf_K (prog := X.prog) (w := X.w) I2.kIn hl lit
  refine call_meetsIn PySem.F.slot_dict_get hmap.typeIs PySem.F.entry_dict_get (PySem.F.args_dict_get_2 _ _) (meets_dict_get (strKind X.prog X.w) a (strKind_is X.prog X.w z tk) low) ⟨_, hmap, ?_⟩
  rw [PySem.W.find_K hl hr]
  obtain ⟨v, hv, hq⟩ := q2 (r.getD .none) (fun u e => by rw [e]; rfl) (fun e => by rw [e]; rfl)
  exact ⟨v, H2, I2.tok _, hv, hq⟩
theorem me_tg2 (T : TabOk X.K X.w X.mg x t) (hg : Gl X x) (he : ME X W e ce) (hf : ME X W f cf) (hd : (x == ("__debug__" : Str)) = false := by decide) (m : M2 X (.Name x p) "get" apos e f cpos := by exact ⟨rfl, rfl, rfl, rfl⟩) : ME X W (.Call (.Attribute (.Name x p) "get" apos) [e, f] [] cpos) (cTg2 t ce cf) := by
  obtain ⟨a, es, n, k, hm, hl, low, lit, ht⟩ := T.ex
  refine ⟨⟨fun pins s σ H Q I h => ?_⟩⟩
  refine wpAny_Call_method m.base m.few m.line PySem.F.plainAttrs_dict PySem.F.slot_dict_get PySem.F.type_dict_get (ld_glob I hg hm ?_ hd)
  obtain ⟨t1, t2⟩ := tg_at I hl lit
  refine ⟨t1, t2, ?_⟩
  rw [m.trees]
  obtain ⟨ρ, φ, S, hE, hS, h⟩ := h
  have rd : rdE X W ce σ H fun y H2 => rdE X W cf σ H2 fun g H3 => ∃ z, y = .str z ∧ ∃ r, PySem.W.nsIn X.K a z = some r ∧ (∀ u, r = some u → ∃ v, RelV v u ∧ Q v H3) ∧ (r = none → Q g H3) := by
    refine ⟨ρ, φ, S, hE, hS, Ok.step h fun d S1 φ1 H1 v q l s r z => ⟨ρ, φ1, S1, hE.mono l, s, Ok.step z fun g S2 φ2 H2 vg q5 l2 s2 rg z => ?_⟩⟩
    cases r <;> try exact z.elim
    rename_i y _
    have nt := nsIn_tab hl ht y
    cases q2 : tabGet t y with
    | none =>
      rw [q2] at nt
      simp only [q2] at z
      exact ⟨y, rfl, none, nt, (fun u e => by cases e), (fun _ => z φ2 H2 _ (Le.refl _ _) s2 rg)⟩
    | some d =>
      rw [q2] at nt
      simp only [q2] at z
      obtain ⟨u, v, h1, h2, h3⟩ := nt
      exact ⟨y, rfl, some u, h1, (fun u' e => by cases e; exact ⟨v, h2, z φ2 H2 v (Le.refl _ _) s2 (h3 _ _)⟩), (fun e => by cases e)⟩
  refine Calls.callWith_builtin rfl (Calls.evalArgs_plain (Calls.spliced_cons (thn (he.pe.run pins s σ H _ I rd) fun iv s2 ⟨y, H2, I2, ry, q1⟩ => Calls.spliced_cons (thn (hf.pe.run pins s2 σ H2 _ I2 q1) fun fv s3 ⟨g, H3, I3, rg, z, ey, r, hr, q3, q4⟩ => Calls.spliced_nil ?_))))
  subst ey
  obtain ⟨tk, rfl⟩ := ry
  have hmap := PySem.W.mapOf_K (prog := X.prog) (w := X.w) I3.kIn hl lit
  refine call_meetsIn PySem.F.slot_dict_get hmap.typeIs PySem.F.entry_dict_get (PySem.F.args_dict_get_3 _ _ _) (meets_dict_get_default (strKind X.prog X.w) a (strKind_is X.prog X.w z tk) low fv) ⟨_, hmap, ?_⟩
  rw [PySem.W.find_K hl hr]
  cases r with
  | none => exact ⟨g, H3, I3.tok _, rg, q4 rfl⟩
  | some u =>
    obtain ⟨v, hv, hq⟩ := q3 u rfl
    exact ⟨v, H3, I3.tok _, hv, hq⟩
end
end MP

/-! MP: more that can be walked. -/
namespace MP
open PySem PySem.Spec PyProof.Rows L2
theorem _root_.L2.PI.or {X : Cx} {tg iter : Expr} {t u : TI} (h : PI X tg iter t) (k : PI X tg iter u) : PI X tg iter (fun σ H Q => t σ H Q ∨ u σ H Q) := ⟨fun pins s σ H Q I z => z.elim (h.run pins s σ H Q I) (k.run pins s σ H Q I)⟩
section
variable {X : Cx} {W : WX} {tg e a b c : Expr} {ce : C} {ca : CA} {p pos : Pos}
theorem MI.or {c1 c2 c : CI} (h1 : MI X W tg e c1) (h2 : MI X W tg e c2) (k : ∀ ρ S, c ρ S = c1 ρ S ∨ c ρ S = c2 ρ S) : MI X W tg e c := ⟨(h1.pi.or h2.pi).imp fun σ H Q h => by
  obtain ⟨ρ, φ, S, he, hs, h⟩ := h
  rcases k ρ S with q | q
  · exact .inl ⟨ρ, φ, S, he, hs, by rw [← q]; exact h⟩
  · exact .inr ⟨ρ, φ, S, he, hs, by rw [← q]; exact h⟩⟩
/-- the signs of a text -/
def signsD (x : Str) : List D := x.cps.toList.map fun c => D.str ⟨#[c]⟩
def ciStr (c : C) : CI := fun ρ S => (c ρ S).bind fun d S => match d with
  | .str x => .ok (signsD x) S
  | _ => .bad
/-- a list, a tuple, a text -/
def ciIt (c : C) : CI := fun ρ S => (c ρ S).bind fun d S => match d with
  | .tup ds => .ok ds S
  | .lst ds => .ok ds S
  | .rol ds => .ok ds S
  | .str x => .ok (signsD x) S
  | _ => .bad
theorem ir_str {K : PySem.W.Frag} {φ : Phi} {H : Hp} (x : Str) : IR K φ H (signsD x) (Its x) where
  go := fun φ' H' e i hi => by
    simp only [signsD, List.length_map, Array.length_toList] at hi
    exact hi
  yld := fun φ' H' S' e s i d y H'' hd yy => by
    obtain ⟨e1, c, hc, e2⟩ := yy
    subst e1 e2
    have : d = .str ⟨#[c]⟩ := by
      simp only [signsD, List.getElem?_map, Array.getElem?_toList, hc, Option.map_some, Option.some.injEq] at hd
      exact hd.symm
    subst this
    exact ⟨Le.refl _ _, s, .str _⟩
  stop := fun φ' H' e => by
    show x.cps.size ≤ (signsD x).length
    simp [signsD]
theorem mi_str (he : ME X W e ce) : MI X W tg e (ciStr ce) := by
  refine ⟨(pi_str he.pe).imp fun σ H Q h => ?_⟩
  obtain ⟨ρ, φ, S, hE, hs, h⟩ := h
  refine ⟨ρ, φ, S, hE, hs, h.step fun d S1 φ1 H1 v q l s r z => ?_⟩
  cases r <;> try exact z.elim
  rename_i x
  exact ⟨x, rfl, z φ1 H1 _ (Le.refl _ _) s (ir_str x)⟩
theorem mi_it (he : ME X W e ce) : MI X W tg e (ciIt ce) := .or (mi_seq he) (mi_str he) fun ρ S => by
  unfold ciIt ciSeq ciStr
  cases ce ρ S with
  | err x S => exact .inl rfl
  | bad => exact .inl rfl
  | ok d S1 =>
    simp only [R.bind_ok]
    cases d <;> first | exact .inl rfl | exact .inr rfl
/-- a list from its end -/
def ciRev (a : CA) : CI := fun ρ S => (a ρ S).bind fun ds S => match ds with
  | [.lst xs] => .ok xs.reverse S
  | [.rol xs] => .ok xs.reverse S
  | _ => .bad
theorem ir_rev {K : PySem.W.Frag} {φ : Phi} {H : Hp} {p : Addr} {ds : List D} {vs : List V} (h : FR K φ H p vs) (r : RelL K φ H ds vs) : IR K φ H ds.reverse (Itv K p vs.length) where
  go := fun φ' H' e i hi => by
    rw [List.length_reverse, r.length] at hi
    refine ⟨hi, vs, vs[vs.length - 1 - i]'(by omega), (h.later e).sq, by simp⟩
  yld := fun φ' H' S' e s i d x H'' hd y => by
    obtain ⟨e1, y⟩ := y
    subst e1
    have hi := (List.getElem?_eq_some_iff.mp hd).1
    rw [List.length_reverse] at hi
    rw [List.getElem?_reverse hi] at hd
    obtain ⟨v, hv, rv⟩ := r.get hd
    have := y vs (h.later e).sq
    rw [← r.length] at this
    rw [hv] at this
    cases this
    exact ⟨Le.refl _ _, s, rv.mono e⟩
  stop := fun φ' H' e => by
    show vs.length ≤ ds.reverse.length
    rw [List.length_reverse, r.length]
    exact Nat.le_refl _
theorem mi_rev (hg : Gl X "reversed") (hm : X.mg "reversed" = none) (ha : MA X W [a] ca) (hs : starEach [a] X.env = [(false, eval a X.env)] := by rfl) : MI X W tg (.Call (.Name "reversed" p) [a] [] pos) (ciRev ca) := by
  refine ⟨(pi_reversed hg hm ha.pa hs).imp fun σ H Q h => ?_⟩
  obtain ⟨ρ, φ, S, hE, hs, h⟩ := h
  refine ⟨ρ, φ, S, hE, hs, h.step fun ds S1 φ1 H1 vs q l s r z => ?_⟩
  split at z
  · rename_i xs
    obtain ⟨v, rfl, r1⟩ := relD1 r
    cases r1
    rename_i p vs zz f w rr
    exact ⟨p, vs, rfl, SqL.of f, z φ1 H1 _ (Le.refl _ _) s (ir_rev (.inl ⟨.inl f, w⟩) rr)⟩
  · rename_i xs
    obtain ⟨v, rfl, r1⟩ := relD1 r
    cases r1
    rename_i p vs zz f rr
    exact ⟨p, vs, rfl, f.sq, z φ1 H1 _ (Le.refl _ _) s (ir_rev f rr)⟩
  · exact z.elim
/-- with their places -/
def enumD : List D → Nat → List D
  | [], _ => []
  | d :: ds, i => .tup [.int (i : Int), d] :: enumD ds (i + 1)
theorem enumD_len : ∀ (ds : List D) (i : Nat), (enumD ds i).length = ds.length
  | [], _ => rfl
  | d :: ds, i => by simp [enumD, enumD_len ds]
theorem enumD_get : ∀ {ds : List D} {i j : Nat} {d : D}, (enumD ds i)[j]? = some d → ∃ x, ds[j]? = some x ∧ d = .tup [.int ((i + j : Nat) : Int), x]
  | [], _, _, _, h => by simp [enumD] at h
  | x :: ds, i, 0, d, h => by
    simp only [enumD, List.getElem?_cons_zero, Option.some.injEq] at h
    exact ⟨x, rfl, by rw [← h]; rfl⟩
  | x :: ds, i, j + 1, d, h => by
    simp only [enumD, List.getElem?_cons_succ] at h
    obtain ⟨y, h1, h2⟩ := enumD_get h
    exact ⟨y, by simpa using h1, by rw [h2]; congr 4; omega⟩
def ciEnum (a : CA) : CI := fun ρ S => (a ρ S).bind fun ds S => match ds with
  | [.lst xs] => .ok (enumD xs 0) S
  | [.rol xs] => .ok (enumD xs 0) S
  | _ => .bad
theorem two_line {a b : V} : [a, b].length ≤ sizeLine := by show 2 ≤ sizeLine; rw [sizeLine_eq]; omega
theorem ir_enum {K : PySem.W.Frag} {φ : Phi} {H : Hp} {p : Addr} {ds : List D} {vs : List V} (h : FR K φ H p vs) (r : RelL K φ H ds vs) : IR K φ H (enumD ds 0) (Ite K p) where
  go := fun φ' H' e i hi => by
    rw [enumD_len, r.length] at hi
    exact ⟨vs, vs[i], (h.later e).sq, by simp [hi]⟩
  yld := fun φ' H' S' e s i d x H'' hd y => by
    obtain ⟨T, w, e1, e2, e3, y⟩ := y
    subst e1 e3
    obtain ⟨z, hz, rfl⟩ := enumD_get hd
    obtain ⟨v, hv, rv⟩ := r.get hz
    have := y vs (h.later e).sq
    rw [hv] at this
    cases this
    refine ⟨Le.fresh e2, s.laid e2, .tup two_line (.inl ⟨.inl upd_same, s.fresh e2⟩) (.cons ?_ (.cons ((rv.mono e).laid e2) .nil))⟩
    rw [Nat.zero_add]
    exact .int _
  stop := fun φ' H' e => ⟨vs, (h.later e).sq, by rw [enumD_len, r.length]; exact Nat.le_refl _⟩
theorem mi_enum {elts : List Expr} {kk : Nat} {tpos : Pos} (hg : Gl X "enumerate") (hm : X.mg "enumerate" = none) (ha : MA X W [a] ca) (hs : starEach [a] X.env = [(false, eval a X.env)] := by rfl) : MI X W (.Tuple elts kk tpos) (.Call (.Name "enumerate" p) [a] [] pos) (ciEnum ca) := by
  refine ⟨(pi_enum hg hm ha.pa hs).imp fun σ H Q h => ?_⟩
  obtain ⟨ρ, φ, S, hE, hs, h⟩ := h
  refine ⟨ρ, φ, S, hE, hs, h.step fun ds S1 φ1 H1 vs q l s r z => ?_⟩
  split at z
  · rename_i xs
    obtain ⟨v, rfl, r1⟩ := relD1 r
    cases r1
    rename_i p vs zz f w rr
    exact ⟨p, vs, rfl, SqL.of f, z φ1 H1 _ (Le.refl _ _) s (ir_enum (.inl ⟨.inl f, w⟩) rr)⟩
  · rename_i xs
    obtain ⟨v, rfl, r1⟩ := relD1 r
    cases r1
    rename_i p vs zz f rr
    exact ⟨p, vs, rfl, f.sq, z φ1 H1 _ (Le.refl _ _) s (ir_enum f rr)⟩
  · exact z.elim
end

/-! ### for over a changeable list -/
/-- item by item, as the list stands at each turn -/
def forI (l n : Nat) (t : Tg) (body : CS) : Nat → Nat → CS
  | 0, _, _, _ => .bad
  | k + 1, i, ρ, S => match look S l n with
    | some (.lst xs) => match xs[i]? with
      | some d => tgR t d ρ fun ρ1 => match body ρ1 S with
        | .nx ρ2 S2 => forI l n t body k (i + 1) ρ2 S2
        | .cnt ρ2 S2 => forI l n t body k (i + 1) ρ2 S2
        | .brk ρ2 S2 => .nx ρ2 S2
        | .ret d S2 => .ret d S2
        | .err x ρ2 S2 => .err x ρ2 S2
        | .bad => .bad
      | none => .nx ρ S
    | _ => .bad
def cForR (c : C) (t : Tg) (body : CS) : CS := fun ρ S => .of ρ (c ρ S) fun d S => match d with
  | .ref l n => forI l n t body 16000001 0 ρ S
  | _ => .bad
/-- a list, a tuple, a text, a changeable list -/
def cForA (c : C) (t : Tg) (body : CS) : CS := fun ρ S => .of ρ (c ρ S) fun d S => match d with
  | .ref l n => forI l n t body 16000001 0 ρ S
  | .tup ds => forL t body ds ρ S
  | .lst ds => forL t body ds ρ S
  | .rol ds => forL t body ds ρ S
  | .str x => forL t body (signsD x) ρ S
  | _ => .bad
section
variable {X : Cx} {W : WX} {tg iter : Expr} {body : List Stmt} {c : C} {t : Tg} {sl : List Nat} {cb : CS} {pos : Pos}
theorem ms_forR (hp : PassesOwn (model X.prog X.w) X.A X.env X.xe) (hc : X.calm = true) (hi : ME X W iter c) (hg : MG X tg t sl) (hb : MSs X W body cb)
    (hs : ∀ x, foldedSetIterable iter X.env x = pure x := by intro _; rfl) : MS X W (.For tg iter body [] pos) (cForR c t cb) := by
  obtain ⟨g, pg, gs⟩ := hg.pg
  refine ⟨(ps_for hp hc (pi_either hi.pe) pg hb.ps hs).imp fun D' σ H h => ?_⟩
  obtain ⟨ρ, φ, S, hE, hs, h⟩ := h
  refine ⟨ρ, φ, S, hE, hs, OkS.from hE h fun d S1 φ1 H1 v q l s r z => ?_⟩
  cases r <;> try exact z.elim
  rename_i lv n a e0
  have e1 : ∃ vs, H1 a = some (.lst vs) := by
    have z' : OkS X.K X.mg φ1 H1 W D' (forI lv n t cb 16000001 0 ρ S1) := z
    unfold forI at z'
    cases q1 : look S1 lv n with
    | none => simp only [q1] at z'; exact z'.elim
    | some o =>
      cases o with
      | lst xs =>
        obtain ⟨vs, hv, _⟩ := s.obj lv n _ a q1 e0
        exact ⟨vs, hv⟩
      | box b xs => simp only [q1] at z'; exact z'.elim
      | dead => simp only [q1] at z'; exact z'.elim
  obtain ⟨vs0, e1⟩ := e1
  refine ⟨a, rfl, .inl ⟨⟨vs0, SqL.of e1⟩, ?_⟩⟩
  refine ⟨fun i m σ H => ∃ ρ φ S, Le φ1 H1 φ H ∧ RE X.K φ H ρ σ ∧ RS X.K φ H S ∧ OkS X.K X.mg φ H W D' (forI lv n t cb m i ρ S), ⟨16000001, ρ, φ1, S1, Le.refl _ _, hE.mono l, s, z⟩, ?_⟩
  rintro i m σ H ⟨ρ, φ, S, l2, hE, hs, h⟩
  have e2 := l2.grow _ _ _ e0
  cases m with
  | zero => exact h.elim
  | succ k =>
    unfold forI at h
    cases q1 : look S lv n with
    | none => simp only [q1] at h; exact h.elim
    | some o =>
      cases o with
      | box b xs => simp only [q1] at h; exact h.elim
      | dead => simp only [q1] at h; exact h.elim
      | lst xs =>
        simp only [q1] at h
        obtain ⟨vs, hv, zz, rr⟩ := hs.obj lv n _ a q1 e2
        cases q2 : xs[i]? with
        | none =>
          simp only [q2] at h
          have hlen : vs.length ≤ i := by
            rw [← rr.length]
            exact List.getElem?_eq_none_iff.mp q2
          exact .inl ⟨⟨vs, SqL.of hv, hlen⟩, h φ H σ (Le.refl _ _) hs hE⟩
        | some d =>
          simp only [q2] at h
          obtain ⟨v, hv2, rv⟩ := rr.get q2
          refine .inr ⟨⟨vs, v, SqL.of hv, hv2⟩, fun σ' H' => ∃ ρ φ S, Le φ1 H1 φ H' ∧ RE X.K φ H' ρ σ' ∧ RS X.K φ H' S ∧ OkS X.K X.mg φ H' W D' (forI lv n t cb k (i + 1) ρ S), fun σ' H' nn => ⟨k, Nat.lt_succ_self _, nn⟩, fun x H' y => ?_⟩
          obtain ⟨ye, y⟩ := y
          subst ye
          have := y vs (SqL.of hv)
          rw [hv2] at this
          cases this
          unfold tgR at h
          cases q3 : t d ρ with
          | none => simp only [q3] at h; exact h.elim
          | some ρ1 =>
            simp only [q3] at h
            refine gs.go φ H' _ v ρ ρ1 σ _ rv hE q3 fun σ1 re1 _ => ⟨ρ1, φ, S, re1, hs, ?_⟩
            cases q4 : cb ρ1 S with
            | nx ρ2 S2 =>
              simp only [q4] at h
              exact fun φ4 H4 σ4 l4 s4 re4 => ⟨ρ2, φ4, S2, l2.trans l4, re4, s4, OkS.later l4 h⟩
            | cnt ρ2 S2 =>
              simp only [q4] at h
              exact fun φ4 H4 σ4 l4 s4 re4 => ⟨ρ2, φ4, S2, l2.trans l4, re4, s4, OkS.later l4 h⟩
            | brk ρ2 S2 => simp only [q4] at h; exact h
            | ret d S2 => simp only [q4] at h; exact h
            | err x ρ2 S2 => simp only [q4] at h; exact h
            | bad => simp only [q4] at h; exact h
theorem ms_forA (hp : PassesOwn (model X.prog X.w) X.A X.env X.xe) (hc : X.calm = true) (hi : ME X W iter c) (hg : MG X tg t sl) (hb : MSs X W body cb)
    (hs : ∀ x, foldedSetIterable iter X.env x = pure x := by intro _; rfl) : MS X W (.For tg iter body [] pos) (cForA c t cb) :=
  .or (ms_for hp hc (mi_it hi) hg hb hs) (ms_forR hp hc hi hg hb hs) fun ρ S => by
    unfold cForA cFor cForR ciIt
    cases c ρ S with
    | err x S => exact .inl rfl
    | bad => exact .inl rfl
    | ok d S1 =>
      simp only [R.bind_ok, RSt.of_ok]
      cases d <;> first | exact .inl rfl | exact .inr rfl
end
end MP

/-! MP: texts compared, int of a text. -/
namespace MP
open PySem PySem.Spec PyProof.Rows L2
def b2i (b : Bool) : Int := if b = true then 1 else 0
theorem gives_lt_bi (a : Bool) (j : Int) (u : Tok) : Gives (Builtin.«int.__lt__» ⟨[.bool a, .int j u], []⟩) (.val (.bool (decide (b2i a < j)))) := by cases a <;> exact .of_eq rfl
theorem gives_gt_bi (a : Bool) (j : Int) (u : Tok) : Gives (Builtin.«int.__gt__» ⟨[.bool a, .int j u], []⟩) (.val (.bool (decide (b2i a > j)))) := by cases a <;> exact .of_eq rfl
theorem gives_lt_bb (a b : Bool) : Gives (Builtin.«int.__lt__» ⟨[.bool a, .bool b], []⟩) (.val (.bool (decide (b2i a < b2i b)))) := by cases a <;> cases b <;> exact .of_eq rfl
section
variable {prog : Program} {w : World} {A : Around} {E : Value → Shared → Prop} {s : Shared} {Q : Value → Shared → Prop}
theorem lt_bi (a : Bool) (j : Int) (u : Tok) (h : Q (.bool (decide (b2i a < j))) s) : wpAny (model prog w) A (compareOp .Lt (.bool a) (.int j u)) Q E s :=
  SeqAt.rc_left_or (op := .Lt) rfl (typeIs_int s j u) (by decide) F.sub_int_bool F.slot_bool_lt
    (call_gives F.slot_bool_lt rfl F.entry_int_lt (F.args_int_lt_2 _ _) (gives_lt_bi a j u) ⟨nofun, h⟩) (.inl rfl)
theorem lt_ib (i : Int) (t : Tok) (b : Bool) (h : Q (.bool (decide (i < b2i b))) s) : wpAny (model prog w) A (compareOp .Lt (.int i t) (.bool b)) Q E s :=
  SeqAt.rc_sub_first_or (op := .Lt) (typeIs_int s i t) rfl (by decide) F.sub_bool_int F.slot_bool_gt_refl
    (call_gives F.slot_bool_gt_refl rfl F.entry_int_gt (F.args_int_gt_2 _ _) (gives_gt_bi b i t) ⟨nofun, h⟩) (.inl rfl)
end
/-- a number and a truth value -/
def gLtB : G2 := fun x y S => match x, y with
  | .bl a, .int j => .ok (.bl (decide (b2i a < j))) S
  | .int i, .bl b => .ok (.bl (decide (i < b2i b))) S
  | _, _ => .bad
def D.isBl : D → Bool
  | .bl _ => true
  | _ => false
theorem os_ltB {X : Cx} : OS X (compareOp .Lt) gLtB := by
  refine ⟨fun x y H Q => (∃ a j, x = .bl a ∧ y = .int j ∧ Q (.bl (decide (b2i a < j))) H) ∨ (∃ i b, x = .int i ∧ y = .bl b ∧ Q (.bl (decide (i < b2i b))) H), ?_, ?_⟩
  · intro pins s σ H x y v u Q I rx ry h
    rcases h with ⟨a, j, rfl, rfl, q⟩ | ⟨i, b, rfl, rfl, q⟩
    · obtain rfl : v = Value.bool a := rx
      obtain ⟨t, rfl⟩ := ry
      exact lt_bi a j t ⟨.bl _, H, I, rfl, q⟩
    · obtain ⟨t, rfl⟩ := rx
      obtain rfl : u = Value.bool b := ry
      exact lt_ib i t b ⟨.bl _, H, I, rfl, q⟩
  · intro W σ φ H S x y vx vy Q s rx ry z
    cases rx <;> first | exact z.elim | skip
    all_goals (cases ry <;> first | exact z.elim | skip)
    · exact .inl ⟨_, _, rfl, rfl, z φ H _ (Le.refl _ _) s (.bl _)⟩
    · exact .inr ⟨_, _, rfl, rfl, z φ H _ (Le.refl _ _) s (.bl _)⟩
def gLtS : G2 := fun x y S => match x, y with
  | .str i, .str j => .ok (.bl (decide (i.cps.toList < j.cps.toList))) S
  | _, _ => .bad
def gLeS : G2 := fun x y S => match x, y with
  | .str i, .str j => .ok (.bl (!decide (j.cps.toList < i.cps.toList))) S
  | _, _ => .bad
def gGtS : G2 := fun x y S => match x, y with
  | .str i, .str j => .ok (.bl (decide (j.cps.toList < i.cps.toList))) S
  | _, _ => .bad
def gGeS : G2 := fun x y S => match x, y with
  | .str i, .str j => .ok (.bl (!decide (i.cps.toList < j.cps.toList))) S
  | _, _ => .bad
def D.isStr : D → Bool
  | .str _ => true
  | _ => false
def gLtA : G2 := fun x y S => if x.isStr then gLtS x y S else if x.isBl || y.isBl then gLtB x y S else gLt x y S
def gLeA : G2 := fun x y S => if x.isStr then gLeS x y S else gLe x y S
def gGtA : G2 := fun x y S => if x.isStr then gGtS x y S else gGt x y S
def gGeA : G2 := fun x y S => if x.isStr then gGeS x y S else gGe x y S
section
variable {X : Cx}
theorem os_str {f : Value → Value → Sem Value} {q : Str → Str → Bool} (h : OpR X f (fun x y H Q => ∃ i j, x = .str i ∧ y = .str j ∧ Q (.bl (q i j)) H)) : OS X f (fun x y S => match x, y with
  | .str i, .str j => .ok (.bl (q i j)) S
  | _, _ => .bad) := ⟨_, h, fun W σ φ H S x y vx vy Q s rx ry z => by
  cases rx <;> try exact z.elim
  cases ry <;> try exact z.elim
  exact ⟨_, _, rfl, rfl, z φ H _ (Le.refl _ _) s (.bl _)⟩⟩
def gLtI : G2 := fun x y S => if x.isBl || y.isBl then gLtB x y S else gLt x y S
theorem os_ltI : OS X (compareOp .Lt) gLtI := OS.or os_ltB os_lt fun x y S => by
  unfold gLtI
  by_cases h : (x.isBl || y.isBl) = true
  · exact .inl (if_pos h)
  · exact .inr (if_neg h)
theorem os_ltA : OS X (compareOp .Lt) gLtA := OS.or (os_str op_lt_str) os_ltI fun x y S => by
  unfold gLtA gLtI
  by_cases h : x.isStr = true
  · exact .inl (by simp only [h, if_true]; rfl)
  · exact .inr (by simp only [h]; rfl)
theorem os_leA : OS X (compareOp .LtE) gLeA := OS.or (os_str op_le_str) os_le fun x y S => by
  unfold gLeA
  by_cases h : x.isStr = true
  · exact .inl (by simp only [h, if_true]; rfl)
  · exact .inr (by simp only [h]; rfl)
theorem os_gtA : OS X (compareOp .Gt) gGtA := OS.or (os_str op_gt_str) os_gt fun x y S => by
  unfold gGtA
  by_cases h : x.isStr = true
  · exact .inl (by simp only [h, if_true]; rfl)
  · exact .inr (by simp only [h]; rfl)
theorem os_geA : OS X (compareOp .GtE) gGeA := OS.or (os_str op_ge_str) os_ge fun x y S => by
  unfold gGeA
  by_cases h : x.isStr = true
  · exact .inl (by simp only [h, if_true]; rfl)
  · exact .inr (by simp only [h]; rfl)
def gIntS : List D → Sto → R D := fun ds S => match ds with
  | [.str a] => match PySem.intText? a with
    | some n => if a.length ≤ 640 then .ok (.int n) S else .bad
    | none => .bad
  | _ => .bad
def gIntA : List D → Sto → R D := fun ds S => match ds with
  | [.str a] => gIntS [.str a] S
  | ds => gInt ds S
theorem ks_intS : KS X (.type "int") gIntS := by
  refine ⟨_, call_int_str, fun W σ φ H S ds vs Q s r z => ?_⟩
  unfold gIntS at z
  split at z
  · rename_i a
    obtain ⟨v, rfl, r1⟩ := relD1 r
    cases r1
    cases q : PySem.intText? a with
    | none => simp only [q] at z; exact z.elim
    | some n =>
      simp only [q] at z
      by_cases h : a.length ≤ 640
      · simp only [h, if_true] at z
        exact ⟨a, n, rfl, q, h, z φ H _ (Le.refl _ _) s (.int _)⟩
      · simp only [h, if_false] at z; exact z.elim
  · exact z.elim
theorem ks_intA : KS X (.type "int") gIntA := KS.or ks_intS ks_int fun ds S => by
  unfold gIntA
  split
  · exact .inl rfl
  · exact .inr rfl
end
end MP

/-! MP: {True: a, False: b}[c]. -/
namespace MP
open PySem PySem.Spec PyProof.Rows L2
def cBoolSel (x y : Str) (c : C) : C := fun ρ S => (c ρ S).bind fun d S => match d with
  | .bl b => .ok (.str (if b then x else y)) S
  | _ => .bad
/-- where c's value goes: chosen between two texts -/
def tBoolSel (x y : Str) (te : TE) : TE := fun σ H Q => te σ H fun v H1 => ∃ b, v = .bl b ∧ Q (.str (if b then x else y)) H1
theorem pe_boolSel {X : Cx} {x y : Str} {e : Expr} {te : TE} {k1 k2 k3 k4 : Nat} {p1 p2 p3 p4 p5 pos : Pos} (he : PE X e te) (hs : NoSl e := by intro _ _; rfl) :
    PE X (.Subscript (.Dict [some (.Constant (.bool true) k1 p1), some (.Constant (.bool false) k2 p2)] [.Constant (.str x) k3 p3, .Constant (.str y) k4 p4] p5) e pos) (tBoolSel x y te) := by
  refine ⟨fun pins s σ H Q I h => ?_⟩
  have hn := I.hok.fresh (Nat.le_refl s.heap.objs.size)
  have I1 : Inv X pins σ H { s with heap := s.heap.push { cls := .type "dict", data := .dict #[] } } := I.kept (t' := s.toks) fun _ _ q => Heap.get?_push_of_some _ q
  have hL : s.heap.objs.size ≠ X.env.locals := Ne.symm (Nat.ne_of_lt I.lt)
  have g0 : (s.heap.push { cls := .type "dict", data := .dict #[] }).get? s.heap.objs.size = some { cls := .type "dict", data := .dict #[] } := Heap.get?_push_size _ rfl
  have hL1 : s.heap.objs.size ∉ X.fs := I.nofs (Nat.le_refl _)
  have ltc : ∀ z c, X.env.cells.lookup z = some c → c ≠ s.heap.objs.size := fun z c q => by
    obtain ⟨v, o, ho, _⟩ := I.cell z c q
    exact Nat.ne_of_lt (Heap.lt_size ho)
  have ltp : ∀ p ∈ X.pn ++ pins, p.1 ≠ s.heap.objs.size := fun p hp => Nat.ne_of_lt (Heap.lt_size (I.pin p hp).1)
  have drop : ∀ {o : Obj} {σ' : L2.St} {H' : Hp} {s' : Shared}, Inv X ((s.heap.objs.size, o) :: pins) σ' H' s' → Inv X pins σ' H' s' ∧ s'.heap.get? s.heap.objs.size = some o ∧ H' s.heap.objs.size = none := fun {o σ' H' s'} J =>
    ⟨J.pins_of fun p hp => J.pin p (List.mem_append_right _ (List.mem_cons_of_mem _ hp)), (J.pin _ (List.mem_append_right _ List.mem_cons_self)).1, (J.pin _ (List.mem_append_right _ List.mem_cons_self)).2.1⟩
  have addp : ∀ {o : Obj} {σ' : L2.St} {H' : Hp} {s' : Shared}, Inv X pins σ' H' s' → s'.heap.get? s.heap.objs.size = some o → H' s.heap.objs.size = none → (∀ v, o.data ≠ .cell v) → Inv X ((s.heap.objs.size, o) :: pins) σ' H' s' := fun {o σ' H' s'} J e1 e2 e3 =>
    J.pins_of fun p hp => by
      rcases List.mem_cons.mp hp with rfl | hp
      · exact ⟨e1, e2, hL, hL1, e3⟩
      · exact J.pin p (List.mem_append_right _ hp)
  have Ip := addp (o := { cls := .type "dict", data := .dict #[] }) I1 g0 hn fun v q => by cases q
  have cst : ∀ {v : Expr} {V0 : V} {J : List (Addr × Obj)} {s' : Shared} {Q' : Value → Shared → Prop}, PE X v (fun _ H Q => Q V0 H) → Inv X J σ H s' → (∀ u s'', Inv X J σ H s'' → RelV V0 u → Q' u s'') → wpAny (model X.prog X.w) X.A (eval v X.env) Q' X.xe s' := fun {v V0 J s' Q'} hv J0 k =>
    thn (hv.run _ _ σ H (fun v0 H0 => v0 = V0 ∧ H0 = H) J0 ⟨rfl, rfl⟩) fun u s'' ⟨v0, H0, J1, r, e1, e2⟩ => by
      subst e1; subst e2
      exact k u s'' J1 r
  refine subD_of PySem.F.slot_dict_getitem.lookup hs (wpAny_Dict_walk (knd := PpSet.boolK X.prog X.w) rfl rfl (List.cons_ne_nil _ _) (by show 2 ≤ 15; decide) ?_)
  refine pairTrees_cons_walk (cst (V0 := .bl true) pe_bl Ip fun u1 s1 J1 r1 => cst (V0 := .str x) pe_str J1 fun u2 s2 J2 r2 => pairTrees_cons_walk (cst (V0 := .bl false) pe_bl J2 fun u3 s3 J3 r3 => cst (V0 := .str y) pe_str J3 fun u4 s4 J4 r4 => pairTrees_nil_walk ?_))
  obtain rfl : u1 = Value.bool true := r1
  obtain rfl : u3 = Value.bool false := r3
  obtain ⟨J, g4, f4⟩ := drop J4
  have dd0 : s4.heap.DictOf (PpSet.boolK X.prog X.w) s.heap.objs.size [] := by
    obtain ⟨o, es, ep, t1, t2, t3, t4⟩ := (Heap.DictOf.new (knd := PpSet.boolK X.prog X.w) s.heap)
    rw [g0] at t1
    cases t1
    exact ⟨_, es, ep, g4, t2, t3, t4⟩
  refine ⟨[(true, u2), (false, u4)], ⟨rfl, rfl, rfl, rfl, True.intro⟩, dd0, fun h' dd hsb => ?_⟩
  have ea : ∃ o, h'.get? s.heap.objs.size = some o ∧ ∀ v, o.data ≠ .cell v := by
    obtain ⟨o, es, ep, t1, t2, t3, t4⟩ := dd
    exact ⟨o, t1, fun v q => by rw [t3] at q; cases q⟩
  obtain ⟨o, go, nc⟩ := ea
  have K1 : Inv X pins σ H { s4 with heap := h', toks := s4.toks + [(Value.bool true, u2), (Value.bool false, u4)].length } :=
    J.turned (fun b u hb q => (hsb.2 b hb).trans q) f4 hL (.inr I.sz) ltc fun p hp => ltp p hp
  refine thn (he.run _ _ σ H _ (addp K1 go f4 nc) h) fun u5 s5 ⟨v5, H5, J5, r5, b, e5, q5⟩ => ?_
  subst e5
  obtain rfl : u5 = Value.bool b := r5
  obtain ⟨J6, g6, f6⟩ := drop J5
  have dd5 : s5.heap.DictOf (PpSet.boolK X.prog X.w) s.heap.objs.size (merged [] [(true, u2), (false, u4)]) := by
    obtain ⟨o', es, ep, t1, t2, t3, t4⟩ := dd
    rw [go] at t1
    cases t1
    exact ⟨_, es, ep, g6, t2, t3, t4⟩
  refine ⟨dd5.typeIs, wpAny_getItem_of (knd := PpSet.boolK X.prog X.w) (k := b) (v := if b then u2 else u4) (PpSet.boolK_is _ _ _) dd5.mapOf (by cases b <;> rfl) ⟨.str (if b then x else y), H5, J6.tok _, ?_, q5⟩⟩
  cases b
  · exact r4
  · exact r2
theorem me_boolSel {X : Cx} {W : WX} {x y : Str} {e : Expr} {ce : C} {k1 k2 k3 k4 : Nat} {p1 p2 p3 p4 p5 pos : Pos} (he : ME X W e ce) (hs : NoSl e := by intro _ _; rfl) :
    ME X W (.Subscript (.Dict [some (.Constant (.bool true) k1 p1), some (.Constant (.bool false) k2 p2)] [.Constant (.str x) k3 p3, .Constant (.str y) k4 p4] p5) e pos) (cBoolSel x y ce) := by
  refine ⟨(pe_boolSel (x := x) (y := y) he.pe hs).imp fun σ H Q h => ?_⟩
  obtain ⟨ρ, φ, S, hE, hR, h⟩ := h
  refine ⟨ρ, φ, S, hE, hR, Ok.step h fun d S1 φ1 H1 v q l1 s1 r z => ?_⟩
  cases d with
  | bl b => cases r with | bl => exact ⟨b, rfl, z _ _ _ (Le.refl _ _) s1 (.str _)⟩
  | _ => exact z.elim
end MP

/-! MP: how meanings are reckoned (simp). -/
namespace MP
open PySem PySem.Spec PyProof.Rows L2

/-! ### isinstance -/
@[simp] theorem kit_ii : kitB "int" "int" = some true := by decide +kernel
@[simp] theorem kit_ib : kitB "int" "bool" = some false := by decide +kernel
@[simp] theorem kit_is : kitB "int" "str" = some false := by decide +kernel
@[simp] theorem kit_it : kitB "int" "tuple" = some false := by decide +kernel
@[simp] theorem kit_il : kitB "int" "list" = some false := by decide +kernel
@[simp] theorem kit_id : kitB "int" "dict" = some false := by decide +kernel
@[simp] theorem kit_bi : kitB "bool" "int" = some true := by decide +kernel
@[simp] theorem kit_bb : kitB "bool" "bool" = some true := by decide +kernel
@[simp] theorem kit_bs : kitB "bool" "str" = some false := by decide +kernel
@[simp] theorem kit_bt : kitB "bool" "tuple" = some false := by decide +kernel
@[simp] theorem kit_bl : kitB "bool" "list" = some false := by decide +kernel
@[simp] theorem kit_bd : kitB "bool" "dict" = some false := by decide +kernel
@[simp] theorem kit_si : kitB "str" "int" = some false := by decide +kernel
@[simp] theorem kit_sb : kitB "str" "bool" = some false := by decide +kernel
@[simp] theorem kit_ss : kitB "str" "str" = some true := by decide +kernel
@[simp] theorem kit_st : kitB "str" "tuple" = some false := by decide +kernel
@[simp] theorem kit_sl : kitB "str" "list" = some false := by decide +kernel
@[simp] theorem kit_sd : kitB "str" "dict" = some false := by decide +kernel
@[simp] theorem kit_ti : kitB "tuple" "int" = some false := by decide +kernel
@[simp] theorem kit_tb : kitB "tuple" "bool" = some false := by decide +kernel
@[simp] theorem kit_ts : kitB "tuple" "str" = some false := by decide +kernel
@[simp] theorem kit_tt : kitB "tuple" "tuple" = some true := by decide +kernel
@[simp] theorem kit_tl : kitB "tuple" "list" = some false := by decide +kernel
@[simp] theorem kit_td : kitB "tuple" "dict" = some false := by decide +kernel
@[simp] theorem kit_li : kitB "list" "int" = some false := by decide +kernel
@[simp] theorem kit_lb : kitB "list" "bool" = some false := by decide +kernel
@[simp] theorem kit_ls : kitB "list" "str" = some false := by decide +kernel
@[simp] theorem kit_lt : kitB "list" "tuple" = some false := by decide +kernel
@[simp] theorem kit_ll : kitB "list" "list" = some true := by decide +kernel
@[simp] theorem kit_ld : kitB "list" "dict" = some false := by decide +kernel
@[simp] theorem kit_ni : kitB "NoneType" "int" = some false := by decide +kernel
@[simp] theorem kit_nb : kitB "NoneType" "bool" = some false := by decide +kernel
@[simp] theorem kit_ns : kitB "NoneType" "str" = some false := by decide +kernel
@[simp] theorem kit_nt : kitB "NoneType" "tuple" = some false := by decide +kernel
@[simp] theorem kit_nl : kitB "NoneType" "list" = some false := by decide +kernel
@[simp] theorem kit_nd : kitB "NoneType" "dict" = some false := by decide +kernel
section
variable (S : Sto)
@[simp] theorem isi_int_int (i : Int) : gIsi [.int i, .ty "int"] S = .ok (.bl true) S := by simp [gIsi, D.tyName]
@[simp] theorem isi_int_bool (i : Int) : gIsi [.int i, .ty "bool"] S = .ok (.bl false) S := by simp [gIsi, D.tyName]
@[simp] theorem isi_int_str (i : Int) : gIsi [.int i, .ty "str"] S = .ok (.bl false) S := by simp [gIsi, D.tyName]
@[simp] theorem isi_int_tuple (i : Int) : gIsi [.int i, .ty "tuple"] S = .ok (.bl false) S := by simp [gIsi, D.tyName]
@[simp] theorem isi_int_list (i : Int) : gIsi [.int i, .ty "list"] S = .ok (.bl false) S := by simp [gIsi, D.tyName]
@[simp] theorem isi_int_dict (i : Int) : gIsi [.int i, .ty "dict"] S = .ok (.bl false) S := by simp [gIsi, D.tyName]
@[simp] theorem isi_bl_int (i : Bool) : gIsi [.bl i, .ty "int"] S = .ok (.bl true) S := by simp [gIsi, D.tyName]
@[simp] theorem isi_bl_bool (i : Bool) : gIsi [.bl i, .ty "bool"] S = .ok (.bl true) S := by simp [gIsi, D.tyName]
@[simp] theorem isi_bl_str (i : Bool) : gIsi [.bl i, .ty "str"] S = .ok (.bl false) S := by simp [gIsi, D.tyName]
@[simp] theorem isi_bl_tuple (i : Bool) : gIsi [.bl i, .ty "tuple"] S = .ok (.bl false) S := by simp [gIsi, D.tyName]
@[simp] theorem isi_bl_list (i : Bool) : gIsi [.bl i, .ty "list"] S = .ok (.bl false) S := by simp [gIsi, D.tyName]
@[simp] theorem isi_bl_dict (i : Bool) : gIsi [.bl i, .ty "dict"] S = .ok (.bl false) S := by simp [gIsi, D.tyName]
@[simp] theorem isi_str_int (i : Str) : gIsi [.str i, .ty "int"] S = .ok (.bl false) S := by simp [gIsi, D.tyName]
@[simp] theorem isi_str_bool (i : Str) : gIsi [.str i, .ty "bool"] S = .ok (.bl false) S := by simp [gIsi, D.tyName]
@[simp] theorem isi_str_str (i : Str) : gIsi [.str i, .ty "str"] S = .ok (.bl true) S := by simp [gIsi, D.tyName]
@[simp] theorem isi_str_tuple (i : Str) : gIsi [.str i, .ty "tuple"] S = .ok (.bl false) S := by simp [gIsi, D.tyName]
@[simp] theorem isi_str_list (i : Str) : gIsi [.str i, .ty "list"] S = .ok (.bl false) S := by simp [gIsi, D.tyName]
@[simp] theorem isi_str_dict (i : Str) : gIsi [.str i, .ty "dict"] S = .ok (.bl false) S := by simp [gIsi, D.tyName]
@[simp] theorem isi_non_int  : gIsi [.non, .ty "int"] S = .ok (.bl false) S := by simp [gIsi, D.tyName]
@[simp] theorem isi_non_bool  : gIsi [.non, .ty "bool"] S = .ok (.bl false) S := by simp [gIsi, D.tyName]
@[simp] theorem isi_non_str  : gIsi [.non, .ty "str"] S = .ok (.bl false) S := by simp [gIsi, D.tyName]
@[simp] theorem isi_non_tuple  : gIsi [.non, .ty "tuple"] S = .ok (.bl false) S := by simp [gIsi, D.tyName]
@[simp] theorem isi_non_list  : gIsi [.non, .ty "list"] S = .ok (.bl false) S := by simp [gIsi, D.tyName]
@[simp] theorem isi_non_dict  : gIsi [.non, .ty "dict"] S = .ok (.bl false) S := by simp [gIsi, D.tyName]
@[simp] theorem isi_tup_int (i : List D) : gIsi [.tup i, .ty "int"] S = .ok (.bl false) S := by simp [gIsi, D.tyName]
@[simp] theorem isi_tup_bool (i : List D) : gIsi [.tup i, .ty "bool"] S = .ok (.bl false) S := by simp [gIsi, D.tyName]
@[simp] theorem isi_tup_str (i : List D) : gIsi [.tup i, .ty "str"] S = .ok (.bl false) S := by simp [gIsi, D.tyName]
@[simp] theorem isi_tup_tuple (i : List D) : gIsi [.tup i, .ty "tuple"] S = .ok (.bl true) S := by simp [gIsi, D.tyName]
@[simp] theorem isi_tup_list (i : List D) : gIsi [.tup i, .ty "list"] S = .ok (.bl false) S := by simp [gIsi, D.tyName]
@[simp] theorem isi_tup_dict (i : List D) : gIsi [.tup i, .ty "dict"] S = .ok (.bl false) S := by simp [gIsi, D.tyName]
@[simp] theorem isi_lst_int (i : List D) : gIsi [.lst i, .ty "int"] S = .ok (.bl false) S := by simp [gIsi, D.tyName]
@[simp] theorem isi_lst_bool (i : List D) : gIsi [.lst i, .ty "bool"] S = .ok (.bl false) S := by simp [gIsi, D.tyName]
@[simp] theorem isi_lst_str (i : List D) : gIsi [.lst i, .ty "str"] S = .ok (.bl false) S := by simp [gIsi, D.tyName]
@[simp] theorem isi_lst_tuple (i : List D) : gIsi [.lst i, .ty "tuple"] S = .ok (.bl false) S := by simp [gIsi, D.tyName]
@[simp] theorem isi_lst_list (i : List D) : gIsi [.lst i, .ty "list"] S = .ok (.bl true) S := by simp [gIsi, D.tyName]
@[simp] theorem isi_lst_dict (i : List D) : gIsi [.lst i, .ty "dict"] S = .ok (.bl false) S := by simp [gIsi, D.tyName]
@[simp] theorem isi_rol_int (i : List D) : gIsi [.rol i, .ty "int"] S = .ok (.bl false) S := by simp [gIsi, D.tyName]
@[simp] theorem isi_rol_bool (i : List D) : gIsi [.rol i, .ty "bool"] S = .ok (.bl false) S := by simp [gIsi, D.tyName]
@[simp] theorem isi_rol_str (i : List D) : gIsi [.rol i, .ty "str"] S = .ok (.bl false) S := by simp [gIsi, D.tyName]
@[simp] theorem isi_rol_tuple (i : List D) : gIsi [.rol i, .ty "tuple"] S = .ok (.bl false) S := by simp [gIsi, D.tyName]
@[simp] theorem isi_rol_list (i : List D) : gIsi [.rol i, .ty "list"] S = .ok (.bl true) S := by simp [gIsi, D.tyName]
@[simp] theorem isi_rol_dict (i : List D) : gIsi [.rol i, .ty "dict"] S = .ok (.bl false) S := by simp [gIsi, D.tyName]
end
section
variable (S : Sto) (ρ : Ro)
@[simp] theorem cK_eq (d : D) : cK d ρ S = .ok d S := (rfl)
theorem cV_eq (i : Nat) : cV i ρ S = match ρ[i]? with | some (some d) => .ok d S | _ => .bad := (rfl)
@[simp] theorem cV_0 (d : D) (r : Ro) : cV 0 (some d :: r) S = .ok d S := (rfl)
@[simp] theorem cV_s (i : Nat) (d : Option D) (r : Ro) : cV (i + 1) (d :: r) S = cV i r S := by
  simp [cV]
end

/-! ### the combinators, applied -/
section
variable (S : Sto) (ρ : Ro)
@[simp] theorem cB_eq (g : G2) (a b : C) : cB g a b ρ S = (a ρ S).bind fun x S => (b ρ S).bind fun y S => g x y S := (rfl)
@[simp] theorem cU_eq (g : D → Sto → R D) (a : C) : cU g a ρ S = (a ρ S).bind fun x S => g x S := (rfl)
@[simp] theorem caNil_eq : caNil ρ S = .ok [] S := (rfl)
@[simp] theorem caCons_eq (a : C) (b : CA) : caCons a b ρ S = (a ρ S).bind fun d S => (b ρ S).bind fun ds S => .ok (d :: ds) S := (rfl)
@[simp] theorem cT_eq (a : C) : cT a ρ S = (a ρ S).bind fun d S => tru d S := (rfl)
@[simp] theorem cTB_eq (a : C) : cTB a ρ S = (a ρ S).bind fun d S => match d with
  | .bl b => .ok b S
  | _ => .bad := (rfl)
@[simp] theorem tAnd_eq (a b : CT) : tAnd a b ρ S = (a ρ S).bind fun k S => if k = true then b ρ S else .ok false S := (rfl)
@[simp] theorem tOr_eq (a b : CT) : tOr a b ρ S = (a ρ S).bind fun k S => if k = true then .ok true S else b ρ S := (rfl)
@[simp] theorem tNot_eq (a : CT) : tNot a ρ S = (a ρ S).bind fun k S => .ok (!k) S := (rfl)
@[simp] theorem cAnd_eq (a b : C) : cAnd a b ρ S = (a ρ S).bind fun x S => (tru x S).bind fun k S => if k = true then b ρ S else .ok x S := (rfl)
@[simp] theorem cOr_eq (a b : C) : cOr a b ρ S = (a ρ S).bind fun x S => (tru x S).bind fun k S => if k = true then .ok x S else b ρ S := (rfl)
@[simp] theorem cNot_eq (a : C) : cNot a ρ S = (a ρ S).bind fun x S => (tru x S).bind fun k S => .ok (.bl (!k)) S := (rfl)
@[simp] theorem cIf_eq (t : CT) (a b : C) : cIf t a b ρ S = (t ρ S).bind fun k S => if k = true then a ρ S else b ρ S := (rfl)
@[simp] theorem cChain_eq (g g' : G2) (a b c : C) : cChain g g' a b c ρ S = (a ρ S).bind fun x S => (b ρ S).bind fun y S => (g x y S).bind fun k S => match k with
  | .bl true => (c ρ S).bind fun z S => g' y z S
  | .bl false => .ok (.bl false) S
  | _ => .bad := (rfl)
@[simp] theorem cTup_eq (a : CA) : cTup a ρ S = (a ρ S).bind fun ds S => .ok (.tup ds) S := (rfl)
@[simp] theorem cLst_eq (a : CA) : cLst a ρ S = (a ρ S).bind fun ds S => .ok (.lst ds) S := (rfl)
@[simp] theorem cCall_eq (g : List D → Sto → R D) (a : CA) : cCall g a ρ S = (a ρ S).bind g := (rfl)
@[simp] theorem coN_eq : coN ρ S = .ok none S := (rfl)
@[simp] theorem coS_eq (c : C) : coS c ρ S = (c ρ S).bind fun d S => match d with
  | .int i => .ok (some i) S
  | _ => .bad := (rfl)
@[simp] theorem cSl_eq (a : C) (lo hi : CO) : cSl a lo hi ρ S = (a ρ S).bind fun x S => (lo ρ S).bind fun l S => (hi ρ S).bind fun h S => gSl x l h S := (rfl)
@[simp] theorem ciSeq_eq (c : C) : ciSeq c ρ S = (c ρ S).bind fun d S => match d with
  | .tup ds => .ok ds S
  | .lst ds => .ok ds S
  | .rol ds => .ok ds S
  | _ => .bad := (rfl)
@[simp] theorem ciR1_eq (a : CA) : ciR1 a ρ S = (a ρ S).bind fun ds S => match ds with
  | [.int n] => if -16000000 ≤ n ∧ n ≤ 16000000 then .ok (rngD 0 n.toNat) S else .bad
  | _ => .bad := (rfl)
@[simp] theorem ciR2_eq (a : CA) : ciR2 a ρ S = (a ρ S).bind fun ds S => match ds with
  | [.int m, .int n] => if -16000000 ≤ m ∧ m ≤ 16000000 ∧ -16000000 ≤ n ∧ n ≤ 16000000 then .ok (rngD m (n - m).toNat) S else .bad
  | _ => .bad := (rfl)
@[simp] theorem cLc_eq (ci : CI) (t : Tg) (q : CT) (e : C) (vs : List Nat) : cLc ci t q e vs ρ S = (ci ρ S).bind fun ds S => if ds.length ≤ 16000000 then (lcL t q e (wipeR ρ vs) ds S).bind fun ys S => .ok (.lst ys) S else .bad := (rfl)
@[simp] theorem ctYes_eq : ctYes ρ S = .ok true S := (rfl)
@[simp] theorem wipeR_nil : wipeR ρ [] = ρ := (rfl)
@[simp] theorem wipeR_cons (v : Nat) (vs : List Nat) : wipeR ρ (v :: vs) = (wipeR ρ vs).set v none := (rfl)
@[simp] theorem cNew_eq (k : Nat) (a : CA) : cNew k a ρ S = (a ρ S).bind fun ds S => match newAt k S (.lst ds) with
  | some (l, i, S') => if D.les l ds = true then .ok (.ref l i) S' else .bad
  | none => .bad := (rfl)
@[simp] theorem cApp_eq (o e : C) : cApp o e ρ S = (o ρ S).bind fun x S => match x with
  | .ref l n => match look S l n with
    | some (.lst _) => (e ρ S).bind fun d S => match look S l n with
      | some (.lst xs) => if xs.length < 16000000 ∧ D.les l (xs ++ [d]) = true then .ok .non (put S l n (.lst (xs ++ [d]))) else .bad
      | _ => .bad
    | _ => .bad
  | _ => .bad := (rfl)
/-! statements -/
@[simp] theorem cNext_eq : cNext ρ S = .nx ρ S := (rfl)
@[simp] theorem cSeq_eq (a b : CS) : cSeq a b ρ S = (a ρ S).andThen b := (rfl)
@[simp] theorem cBrk_eq : cBrk ρ S = .brk ρ S := (rfl)
@[simp] theorem cCnt_eq : cCnt ρ S = .cnt ρ S := (rfl)
@[simp] theorem cDrop_eq (c : C) : cDrop c ρ S = .of ρ (c ρ S) fun _ S => .nx ρ S := (rfl)
@[simp] theorem cRet_eq (c : C) : cRet c ρ S = .of ρ (c ρ S) fun d S => .ret d S := (rfl)
@[simp] theorem cRetN_eq : cRetN ρ S = .ret .non S := (rfl)
@[simp] theorem cIfS_eq (t : CT) (a b : CS) : cIfS t a b ρ S = .of ρ (t ρ S) fun k S => if k = true then a ρ S else b ρ S := (rfl)
@[simp] theorem cAsg_eq (t : Tg) (c : C) : cAsg t c ρ S = .of ρ (c ρ S) fun d S => tgR t d ρ fun ρ' => .nx ρ' S := (rfl)
@[simp] theorem tgR_tup (ts : List Tg) (ds : List D) (f : Ro → RSt) : tgR (tgT ts) (.tup ds) ρ f = match tgs ts ds ρ with
  | some ρ' => f ρ'
  | none => .bad := (rfl)
@[simp] theorem tgs_nil : tgs [] [] ρ = some ρ := (rfl)
@[simp] theorem tgs_name (i : Nat) (ts : List Tg) (d : D) (ds : List D) : tgs (tgN i :: ts) (d :: ds) ρ = tgs ts ds (ρ.set i (some d)) := (rfl)
@[simp] theorem tgN_eq (i : Nat) (d : D) : tgN i d ρ = some (ρ.set i (some d)) := (rfl)
@[simp] theorem tgT_eq (ts : List Tg) (ds : List D) : tgT ts (.tup ds) ρ = tgs ts ds ρ := (rfl)
@[simp] theorem cPar_eq (is : List Nat) (c : CA) : cPar is c ρ S = .of ρ (c ρ S) fun ds S => match tgs (is.map tgN) ds ρ with
  | some ρ' => .nx ρ' S
  | none => .bad := (rfl)
@[simp] theorem cAug_eq (i : Nat) (g : G2) (c : C) : cAug i g c ρ S = .of ρ (cV i ρ S) fun x _ => .of ρ (c ρ S) fun y S => .of ρ (g x y S) fun z S => .nx (ρ.set i (some z)) S := by
  unfold cAug cV
  cases h : ρ[i]? with
  | none => rfl
  | some o => cases o <;> rfl
@[simp] theorem cSetI_eq (o i e : C) : cSetI o i e ρ S = .of ρ (e ρ S) fun d S => .of ρ (o ρ S) fun x S => .of ρ (i ρ S) fun k S => match x, k with
  | .ref l n, .int j => match look S l n with
    | some (.lst xs) => match ixN xs.length j with
      | some m => if D.les l (xs.set m d) = true then .nx ρ (put S l n (.lst (xs.set m d))) else .bad
      | none => .bad
    | _ => .bad
  | _, _ => .bad := (rfl)
@[simp] theorem cFor_eq (ci : CI) (t : Tg) (body : CS) : cFor ci t body ρ S = .of ρ (ci ρ S) fun ds S => forL t body ds ρ S := (rfl)
@[simp] theorem forL_nil (t : Tg) (body : CS) : forL t body [] ρ S = .nx ρ S := (rfl)
theorem forL_cons (t : Tg) (body : CS) (d : D) (ds : List D) : forL t body (d :: ds) ρ S = tgR t d ρ fun ρ1 => match body ρ1 S with
    | .nx ρ2 S2 => forL t body ds ρ2 S2
    | .cnt ρ2 S2 => forL t body ds ρ2 S2
    | .brk ρ2 S2 => .nx ρ2 S2
    | .ret d S2 => .ret d S2
    | .err x ρ2 S2 => .err x ρ2 S2
    | .bad => .bad := (rfl)
@[simp] theorem lcL_nil (t : Tg) (q : CT) (e : C) : lcL t q e ρ [] S = .ok [] S := (rfl)
theorem lcL_cons (t : Tg) (q : CT) (e : C) (d : D) (ds : List D) : lcL t q e ρ (d :: ds) S = match t d ρ with
    | some ρ1 => (q ρ1 S).calm.bind fun k S1 => if k = true then (e ρ1 S1).calm.bind fun y S2 => (lcL t q e ρ ds S2).bind fun ys S3 => .ok (y :: ys) S3 else lcL t q e ρ ds S1
    | none => .bad := (rfl)
/-! values -/
variable (i j : Int) (x y : Str) (xs ys : List D) (b c : Bool)
@[simp] theorem gSub_i : gSub (.int i) (.int j) S = .ok (.int (i - j)) S := (rfl)
@[simp] theorem gAnd_i : gAnd (.int i) (.int j) S = .ok (.int (Builtin.bitAnd i j)) S := (rfl)
@[simp] theorem gOr_i : gOr (.int i) (.int j) S = .ok (.int (Builtin.bitOr i j)) S := (rfl)
@[simp] theorem gXor_i : gXor (.int i) (.int j) S = .ok (.int (Builtin.bitXor i j)) S := (rfl)
@[simp] theorem gFdiv_i : gFdiv (.int i) (.int j) S = if 0 < j ∧ j < 1073741824 then .ok (.int (i / j)) S else .bad := (rfl)
@[simp] theorem gMod_i : gMod (.int i) (.int j) S = if 0 < j then .ok (.int (i % j)) S else .bad := (rfl)
@[simp] theorem gPow_i : gPow (.int i) (.int j) S = if 0 ≤ j ∧ j ≤ 1000000 ∧ i.natAbs < 18446744073709551616 then .ok (.int (i ^ j.toNat)) S else .bad := (rfl)
@[simp] theorem gShl_i : gShl (.int i) (.int j) S = if 0 ≤ j ∧ j ≤ 1000000 ∧ i.natAbs < 18446744073709551616 then .ok (.int (i * 2 ^ j.toNat)) S else .bad := (rfl)
@[simp] theorem gShr_i : gShr (.int i) (.int j) S = if 0 ≤ j then .ok (.int (i / 2 ^ j.toNat)) S else .bad := (rfl)
@[simp] theorem gLt_i : gLt (.int i) (.int j) S = .ok (.bl (decide (i < j))) S := (rfl)
@[simp] theorem gLe_i : gLe (.int i) (.int j) S = .ok (.bl (decide (i ≤ j))) S := (rfl)
@[simp] theorem gGt_i : gGt (.int i) (.int j) S = .ok (.bl (decide (j < i))) S := (rfl)
@[simp] theorem gGe_i : gGe (.int i) (.int j) S = .ok (.bl (decide (j ≤ i))) S := (rfl)
@[simp] theorem gAdd_i : gAdd (.int i) (.int j) S = .ok (.int (i + j)) S := (rfl)
@[simp] theorem gAdd_s : gAdd (.str x) (.str y) S = if x.length + y.length ≤ 16000000 then .ok (.str (x ++ y)) S else .bad := (rfl)
@[simp] theorem gAdd_l : gAdd (.lst xs) (.lst ys) S = if xs.length + ys.length ≤ 16000000 then .ok (.lst (xs ++ ys)) S else .bad := (rfl)
@[simp] theorem gAdd_t : gAdd (.tup xs) (.tup ys) S = if xs.length + ys.length ≤ 16000000 then .ok (.tup (xs ++ ys)) S else .bad := (rfl)
@[simp] theorem gIAdd_i : gIAdd (.int i) (.int j) S = .ok (.int (i + j)) S := (rfl)
@[simp] theorem gIAdd_s : gIAdd (.str x) (.str y) S = if x.length + y.length ≤ 16000000 then .ok (.str (x ++ y)) S else .bad := (rfl)
@[simp] theorem gMul_i : gMul (.int i) (.int j) S = if i.natAbs < 18446744073709551616 ∨ j.natAbs < 18446744073709551616 then .ok (.int (i * j)) S else .bad := (rfl)
@[simp] theorem gMul_l : gMul (.lst xs) (.int j) S = if 0 ≤ j ∧ j ≤ 100000 ∧ xs.length * j.toNat ≤ 16000000 then .ok (.lst (List.replicate j.toNat xs).flatten) S else .bad := (rfl)
@[simp] theorem gMul_t : gMul (.tup xs) (.int j) S = if xs ≠ [] ∧ 2 ≤ j ∧ j ≤ 1000 ∧ xs.length ≤ 1000 then .ok (.tup (List.replicate j.toNat xs).flatten) S else .bad := (rfl)
@[simp] theorem gEq_i : gEq (.int i) (.int j) S = .ok (.bl (decide (i = j))) S := (rfl)
@[simp] theorem gEq_b : gEq (.bl b) (.bl c) S = .ok (.bl (decide (b = c))) S := (rfl)
@[simp] theorem gEq_s : gEq (.str x) (.str y) S = .ok (.bl (decide (x = y))) S := (rfl)
@[simp] theorem gNe_i : gNe (.int i) (.int j) S = .ok (.bl (!decide (i = j))) S := (rfl)
@[simp] theorem gNe_b : gNe (.bl b) (.bl c) S = .ok (.bl (!decide (b = c))) S := (rfl)
@[simp] theorem gNe_s : gNe (.str x) (.str y) S = .ok (.bl (!decide (x = y))) S := (rfl)
@[simp] theorem gEq_is : gEq (.int i) (.str y) S = .ok (.bl false) S := (rfl)
@[simp] theorem gEq_si : gEq (.str x) (.int j) S = .ok (.bl false) S := (rfl)
@[simp] theorem gEq_ni : gEq .non (.int j) S = .ok (.bl false) S := (rfl)
@[simp] theorem gEq_ns : gEq .non (.str y) S = .ok (.bl false) S := (rfl)
@[simp] theorem gEq_nb : gEq .non (.bl b) S = .ok (.bl false) S := (rfl)
@[simp] theorem gEq_in : gEq (.int i) .non S = .ok (.bl false) S := (rfl)
@[simp] theorem gEq_sn : gEq (.str x) .non S = .ok (.bl false) S := (rfl)
@[simp] theorem gEq_bn : gEq (.bl b) .non S = .ok (.bl false) S := (rfl)
@[simp] theorem gEq_bs : gEq (.bl b) (.str y) S = .ok (.bl false) S := (rfl)
@[simp] theorem gEq_sb : gEq (.str x) (.bl b) S = .ok (.bl false) S := (rfl)
@[simp] theorem gNe_is : gNe (.int i) (.str y) S = .ok (.bl true) S := (rfl)
@[simp] theorem gNe_si : gNe (.str x) (.int j) S = .ok (.bl true) S := (rfl)
@[simp] theorem gNe_ni : gNe .non (.int j) S = .ok (.bl true) S := (rfl)
@[simp] theorem gNe_ns : gNe .non (.str y) S = .ok (.bl true) S := (rfl)
@[simp] theorem gNe_nb : gNe .non (.bl b) S = .ok (.bl true) S := (rfl)
@[simp] theorem gNe_in : gNe (.int i) .non S = .ok (.bl true) S := (rfl)
@[simp] theorem gNe_sn : gNe (.str x) .non S = .ok (.bl true) S := (rfl)
@[simp] theorem gNe_bn : gNe (.bl b) .non S = .ok (.bl true) S := (rfl)
@[simp] theorem gNe_bs : gNe (.bl b) (.str y) S = .ok (.bl true) S := (rfl)
@[simp] theorem gNe_sb : gNe (.str x) (.bl b) S = .ok (.bl true) S := (rfl)
theorem gEq_gen (d e : D) (h : ∀ S, gEq d e S = if SeqAt.shaped d.toP && SeqAt.shaped e.toP then .ok (.bl (PyData.eqv d.toP e.toP)) S else .bad) (hd : SeqAt.shaped d.toP = true) (he : SeqAt.shaped e.toP = true) : gEq d e S = .ok (.bl (PyData.eqv d.toP e.toP)) S := by
  rw [h]; simp [hd, he]
theorem gEq_ll : gEq (.lst xs) (.lst ys) S = if SeqAt.shaped (D.toP (.lst xs)) && SeqAt.shaped (D.toP (.lst ys)) then .ok (.bl (PyData.eqv (D.toP (.lst xs)) (D.toP (.lst ys)))) S else .bad := (rfl)
theorem gEq_tt : gEq (.tup xs) (.tup ys) S = if SeqAt.shaped (D.toP (.tup xs)) && SeqAt.shaped (D.toP (.tup ys)) then .ok (.bl (PyData.eqv (D.toP (.tup xs)) (D.toP (.tup ys)))) S else .bad := (rfl)
@[simp] theorem gIsN_eq (d : D) : gIsN d .non S = .ok (.bl d.isNon) S := by cases d <;> rfl
@[simp] theorem gNotN_eq (d : D) : gNotN d .non S = .ok (.bl (!d.isNon)) S := by cases d <;> rfl
@[simp] theorem isNon_non : D.non.isNon = true := (rfl)
@[simp] theorem isNon_int : (D.int i).isNon = false := (rfl)
@[simp] theorem isNon_bl : (D.bl b).isNon = false := (rfl)
@[simp] theorem isNon_str : (D.str x).isNon = false := (rfl)
@[simp] theorem isNon_tup : (D.tup xs).isNon = false := (rfl)
@[simp] theorem isNon_lst : (D.lst xs).isNon = false := (rfl)
@[simp] theorem isNon_rol : (D.rol xs).isNon = false := (rfl)
@[simp] theorem isNon_ref (l n : Nat) : (D.ref l n).isNon = false := (rfl)
@[simp] theorem gNeg_i : gNeg (.int i) S = .ok (.int (-i)) S := (rfl)
@[simp] theorem tru_b : tru (.bl b) S = .ok b S := (rfl)
@[simp] theorem tru_i : tru (.int i) S = .ok (i != 0) S := (rfl)
@[simp] theorem tru_n : tru .non S = .ok false S := (rfl)
@[simp] theorem tru_t : tru (.tup xs) S = .ok (!xs.isEmpty) S := (rfl)
@[simp] theorem tru_l : tru (.lst xs) S = .ok (!xs.isEmpty) S := (rfl)
@[simp] theorem tru_ro : tru (.rol xs) S = .ok (!xs.isEmpty) S := (rfl)
@[simp] theorem gIx_t : gIx (.tup xs) (.int i) S = match atI xs i with | some d => .ok d S | none => .bad := (rfl)
@[simp] theorem gIx_l : gIx (.lst xs) (.int i) S = match atI xs i with | some d => .ok d S | none => .bad := (rfl)
@[simp] theorem gIx_ro : gIx (.rol xs) (.int i) S = match atI xs i with | some d => .ok d S | none => .bad := (rfl)
@[simp] theorem gIx_r (l n : Nat) : gIx (.ref l n) (.int i) S = match look S l n with
    | some (.lst xs) => match atI xs i with
      | some d => .ok d S
      | none => .bad
    | _ => .bad := (rfl)
@[simp] theorem gSl_t (lo hi : Option Int) : gSl (.tup xs) lo hi S = .ok (.tup (cutL xs lo hi)) S := (rfl)
@[simp] theorem gSl_l (lo hi : Option Int) : gSl (.lst xs) lo hi S = .ok (.lst (cutL xs lo hi)) S := (rfl)
@[simp] theorem gSl_ro (lo hi : Option Int) : gSl (.rol xs) lo hi S = .ok (.lst (cutL xs lo hi)) S := (rfl)
@[simp] theorem gLen_t : gLen [.tup xs] S = .ok (.int xs.length) S := (rfl)
@[simp] theorem gLen_l : gLen [.lst xs] S = .ok (.int xs.length) S := (rfl)
@[simp] theorem gLen_ro : gLen [.rol xs] S = .ok (.int xs.length) S := (rfl)
@[simp] theorem gLen_r (l n : Nat) : gLen [.ref l n] S = match look S l n with
    | some (.lst xs) => .ok (.int xs.length) S
    | _ => .bad := (rfl)
@[simp] theorem gAbs_i : gAbs [.int i] S = .ok (.int (if i < 0 then -i else i)) S := (rfl)
@[simp] theorem gInt_i : gInt [.int i] S = .ok (.int i) S := (rfl)
@[simp] theorem gInt_b : gInt [.bl b] S = .ok (.int (if b then 1 else 0)) S := (rfl)
@[simp] theorem gTuple_t : gTuple [.tup xs] S = .ok (.tup xs) S := (rfl)
@[simp] theorem gTuple_l : gTuple [.lst xs] S = .ok (.tup xs) S := (rfl)
@[simp] theorem gTuple_ro : gTuple [.rol xs] S = .ok (.tup xs) S := (rfl)
@[simp] theorem gList_t : gList [.tup xs] S = .ok (.lst xs) S := (rfl)
@[simp] theorem gList_l : gList [.lst xs] S = .ok (.lst xs) S := (rfl)
@[simp] theorem gList_ro : gList [.rol xs] S = .ok (.lst xs) S := (rfl)
theorem gSum_l {ns : List Int} (h : toInts xs = some ns) : gSum [.lst xs] S = .ok (.int ns.sum) S := by simp [gSum, gFold, h]
theorem gAll_l {ns : List Bool} (h : toBls xs = some ns) : gAll [.lst xs] S = .ok (.bl (ns.all id)) S := by simp [gAll, gFold, h]
theorem gAny_l {ns : List Bool} (h : toBls xs = some ns) : gAny [.lst xs] S = .ok (.bl (ns.any id)) S := by simp [gAny, gFold, h]
@[simp] theorem atI_0 {α : Type} (d : α) (ds : List α) : atI (d :: ds) 0 = some d := by simp [atI, ixN]
theorem atI_nn {α : Type} {xs : List α} {i : Int} (h : 0 ≤ i) : atI xs i = xs[i.toNat]? := by
  unfold atI ixN
  by_cases h2 : i < xs.length
  · simp [h, h2]
  · simp [h, h2]
    try omega
@[simp] theorem leave_nil (d : D) : leave d ([] :: S) = .ok d S := (rfl)
theorem leave_flat (d : D) (r : List O) (h : ∀ n l, D.fz r l (n + 1) d = some d) : leave d (r :: S) = .ok d S := by
  cases r with
  | nil => rfl
  | cons o r =>
    have e : D.fz (o :: r) S.length 40 d = some d := h 39 S.length
    simp only [leave, e]
@[simp] theorem leave_int (r : List O) : leave (.int i) (r :: S) = .ok (.int i) S := leave_flat _ _ _ fun _ _ => rfl
@[simp] theorem leave_bl (r : List O) : leave (.bl b) (r :: S) = .ok (.bl b) S := leave_flat _ _ _ fun _ _ => rfl
@[simp] theorem leave_non (r : List O) : leave .non (r :: S) = .ok .non S := leave_flat _ _ _ fun _ _ => rfl
@[simp] theorem leave_str (r : List O) : leave (.str x) (r :: S) = .ok (.str x) S := leave_flat _ _ _ fun _ _ => rfl
theorem runF_eq (n : Nat) (body : CS) (args : List D) : runF n body args S = match body (args.map some ++ List.replicate (n - args.length) none) ([] :: S) with
  | .nx _ S' => leave .non S'
  | .ret d S' => leave d S'
  | .err x _ S' => leaveX x S'
  | _ => .bad := (rfl)
end
@[simp] theorem les_ints (l : Nat) : ∀ ns : List Int, D.les l (ns.map D.int) = true
  | [] => rfl
  | n :: ns => by simp [D.les, D.le, les_ints l ns]
/-! ### comprehensions that leave the store -/
theorem lc_filter (i : Nat) (q : CT) (e : C) (ρ : Ro) (S : Sto) (p : D → Bool) (f : D → D) : ∀ ds : List D, (∀ d ∈ ds, q (ρ.set i (some d)) S = .ok (p d) S) → (∀ d ∈ ds, p d = true → e (ρ.set i (some d)) S = .ok (f d) S) →
    lcL (tgN i) q e ρ ds S = .ok ((ds.filter p).map f) S
  | [], _, _ => rfl
  | d :: ds, h1, h2 => by
    have ih := lc_filter i q e ρ S p f ds (fun x hx => h1 x (List.mem_cons_of_mem _ hx)) (fun x hx => h2 x (List.mem_cons_of_mem _ hx))
    rw [lcL_cons]
    simp only [tgN_eq, h1 d List.mem_cons_self, R.calm_ok, R.bind_ok]
    cases hp : p d with
    | true => simp [h2 d List.mem_cons_self hp, ih, List.filter_cons, hp]
    | false => simp [ih, List.filter_cons, hp]
theorem lc_map (i : Nat) (e : C) (ρ : Ro) (S : Sto) (f : D → D) (ds : List D) (h : ∀ d ∈ ds, e (ρ.set i (some d)) S = .ok (f d) S) : lcL (tgN i) ctYes e ρ ds S = .ok (ds.map f) S := by
  have := lc_filter i ctYes e ρ S (fun _ => true) f ds (fun _ _ => rfl) (fun d hd _ => h d hd)
  rw [this]
  congr 2
  exact List.filter_eq_self.mpr fun _ _ => rfl
theorem lc_rng (i : Nat) (e : C) (ρ : Ro) (S : Sto) (lo : Int) (n : Nat) (f : Nat → D) (h : ∀ k, k < n → e (ρ.set i (some (.int (lo + (k : Int))))) S = .ok (f k) S) : lcL (tgN i) ctYes e ρ (rngD lo n) S = .ok ((List.range n).map f) S := by
  have go : ∀ ks : List Nat, (∀ k ∈ ks, e (ρ.set i (some (.int (lo + (k : Int))))) S = .ok (f k) S) → lcL (tgN i) ctYes e ρ (ks.map fun (k : Nat) => D.int (lo + (k : Int))) S = .ok (ks.map f) S := by
    intro ks
    induction ks with
    | nil => intro _; rfl
    | cons k ks ih =>
      intro hk
      rw [List.map_cons, lcL_cons]
      simp [hk k List.mem_cons_self, ih fun x hx => hk x (List.mem_cons_of_mem _ hx)]
  exact go (List.range n) fun k hk => h k (List.mem_range.mp hk)
theorem lc_rngF (i : Nat) (q : CT) (e : C) (ρ : Ro) (S : Sto) (lo : Int) (n : Nat) (p : Nat → Bool) (f : Nat → D) (hq : ∀ k, k < n → q (ρ.set i (some (.int (lo + (k : Int))))) S = .ok (p k) S) (h : ∀ k, k < n → p k = true → e (ρ.set i (some (.int (lo + (k : Int))))) S = .ok (f k) S) :
    lcL (tgN i) q e ρ (rngD lo n) S = .ok (((List.range n).filter p).map f) S := by
  have go : ∀ ks : List Nat, (∀ k ∈ ks, q (ρ.set i (some (.int (lo + (k : Int))))) S = .ok (p k) S) → (∀ k ∈ ks, p k = true → e (ρ.set i (some (.int (lo + (k : Int))))) S = .ok (f k) S) → lcL (tgN i) q e ρ (ks.map fun (k : Nat) => D.int (lo + (k : Int))) S = .ok ((ks.filter p).map f) S := by
    intro ks
    induction ks with
    | nil => intro _ _; rfl
    | cons k ks ih =>
      intro h1 h2
      have := ih (fun x hx => h1 x (List.mem_cons_of_mem _ hx)) (fun x hx => h2 x (List.mem_cons_of_mem _ hx))
      rw [List.map_cons, lcL_cons]
      simp only [tgN_eq, h1 k List.mem_cons_self, R.calm_ok, R.bind_ok]
      cases hp : p k with
      | true => simp [h2 k List.mem_cons_self hp, this, List.filter_cons, hp]
      | false => simp [this, List.filter_cons, hp]
  exact go (List.range n) (fun k hk => hq k (List.mem_range.mp hk)) (fun k hk => h k (List.mem_range.mp hk))
@[simp] theorem rngD_len (lo : Int) (n : Nat) : (rngD lo n).length = n := rngD_length lo n
/-! ### slices -/
section
variable {α : Type} (xs : List α)
theorem cutL_from (k : Nat) : cutL xs (some (k : Int)) none = xs.drop k := by
  unfold cutL
  rw [HT.sIx_nat, HT.sIx_none]
  by_cases h : k ≤ xs.length
  · rw [Nat.min_eq_left h]
    exact List.take_of_length_le (by rw [List.length_drop]; omega)
  · rw [List.drop_of_length_le (by omega), List.drop_of_length_le (by omega)]
    simp
theorem cutL_to (k : Nat) : cutL xs none (some (k : Int)) = xs.take k := by
  unfold cutL
  rw [HT.sIx_nat, HT.sIx_none, List.drop_zero, Nat.sub_zero]
  by_cases h : k ≤ xs.length
  · rw [Nat.min_eq_left h]
  · rw [Nat.min_eq_right (by omega), List.take_of_length_le (Nat.le_refl _), List.take_of_length_le (by omega)]
theorem cutL_both (j k : Nat) : cutL xs (some (j : Int)) (some (k : Int)) = (xs.take k).drop j := by
  unfold cutL
  rw [HT.sIx_nat, HT.sIx_nat]
  by_cases hj : j ≤ xs.length
  · rw [Nat.min_eq_left hj, List.drop_take]
    by_cases h : k ≤ xs.length
    · rw [Nat.min_eq_left h]
    · rw [Nat.min_eq_right (by omega), List.take_of_length_le (by rw [List.length_drop]; omega), List.take_of_length_le (by rw [List.length_drop]; omega)]
  · have e : min j xs.length = xs.length := by omega
    have e2 : List.drop j (List.take k xs) = [] := List.drop_of_length_le (by rw [List.length_take]; omega)
    rw [e, e2, List.drop_of_length_le (Nat.le_refl _)]
    simp
theorem cutL_all : cutL xs none none = xs := by
  unfold cutL
  rw [HT.sIx_none, HT.sIx_none]
  simp
theorem cutL_last : cutL xs none (some (-1)) = xs.dropLast := by
  unfold cutL
  rw [HT.sIx_none, List.dropLast_eq_take]
  have : HT.sIx xs.length xs.length (some (-1)) = xs.length - 1 := by
    unfold HT.sIx
    simp only [show (-1 : Int) < 0 from by decide, if_true]
    omega
  rw [this]
  simp
@[simp] theorem cutL_from1 : cutL xs (some 1) none = xs.drop 1 := cutL_from xs 1
@[simp] theorem cutL_from2 : cutL xs (some 2) none = xs.drop 2 := cutL_from xs 2
@[simp] theorem cutL_to1 : cutL xs none (some 1) = xs.take 1 := cutL_to xs 1
end
end MP

/-! MP: what the laws' own helpers mean. -/
namespace MP
open PySem PySem.Spec PyProof.Rows L2
/-- _law_same(told, due) -/
def c_same (self : Sem') : CS :=
  (cSeq (cIfS (cTB (cB gIsN (cV 1) (cK .non))) (cRet (cB gIsN (cV 0) (cK .non))) cNext)
    (cSeq (cIfS (cT (cCall gIsi (caCons (cV 1) (caCons (cK (.ty "bool")) caNil)))) (cRet (cAnd (cCall gIsi (caCons (cV 0) (caCons (cK (.ty "bool")) caNil))) (cB gEq (cV 0) (cV 1)))) cNext)
    (cSeq (cIfS (cT (cCall gIsi (caCons (cV 1) (caCons (cK (.ty "int")) caNil)))) (cRet (cAnd (cCall gIsi (caCons (cV 0) (caCons (cK (.ty "int")) caNil))) (cAnd (cNot (cCall gIsi (caCons (cV 0) (caCons (cK (.ty "bool")) caNil)))) (cB gEq (cV 0) (cV 1))))) cNext)
    (cSeq (cIfS (cT (cCall gIsi (caCons (cV 1) (caCons (cK (.ty "str")) caNil)))) (cRet (cAnd (cCall gIsi (caCons (cV 0) (caCons (cK (.ty "str")) caNil))) (cB gEq (cV 0) (cV 1)))) cNext)
    (cSeq (cIfS (tOr (tAnd (cT (cCall gIsi (caCons (cV 1) (caCons (cK (.ty "list")) caNil)))) (tNot (cT (cCall gIsi (caCons (cV 0) (caCons (cK (.ty "list")) caNil)))))) (tAnd (cT (cCall gIsi (caCons (cV 1) (caCons (cK (.ty "tuple")) caNil)))) (tNot (cT (cCall gIsi (caCons (cV 0) (caCons (cK (.ty "tuple")) caNil))))))) (cRet (cK (.bl false))) cNext)
    (cRet (cAnd (cB gEq (cCall gLen (caCons (cV 0) caNil)) (cCall gLen (caCons (cV 1) caNil))) (cB gEq (cLc (ciR1 (caCons (cCall gLen (caCons (cV 1) caNil)) caNil)) (tgN 2) (tNot (cT (cCall self (caCons (cB gIx (cV 0) (cV 2)) (caCons (cB gIx (cV 1) (cV 2)) caNil))))) (cK (.int 1)) [2]) (cLst caNil)))))))))
def m_same : Nat → Sem'
  | 0 => fun _ _ => .bad
  | k + 1 => runF 3 (c_same (m_same k))

mutual
/-- of one kind and equal, also within: depth below n, no changeable thing within -/
def D.flat : Nat → D → Bool
  | 0, _ => false
  | n + 1, d => match d with
    | .non => true
    | .bl _ => true
    | .int _ => true
    | .str _ => true
    | .tup xs => decide (xs.length ≤ 16000000) && D.flats n xs
    | .lst xs => decide (xs.length ≤ 16000000) && D.flats n xs
    | _ => false
def D.flats : Nat → List D → Bool
  | _, [] => true
  | n, x :: xs => D.flat n x && D.flats n xs
end
theorem flats_mem : ∀ {n : Nat} {xs : List D}, D.flats n xs = true → ∀ d ∈ xs, D.flat n d = true
  | n, x :: xs, h, d, hd => by
    simp only [D.flats, Bool.and_eq_true] at h
    rcases List.mem_cons.mp hd with e | e
    · subst e; exact h.1
    · exact flats_mem h.2 d e
@[simp] theorem shaped_lnil : SeqAt.shaped (D.toP (.lst [])) = true := by decide +kernel
@[simp] theorem shaped_tnil : SeqAt.shaped (D.toP (.tup [])) = true := by decide +kernel
@[simp] theorem shaped_l0 : SeqAt.shaped (PyData.list []) = true := by decide +kernel
@[simp] theorem shaped_t0 : SeqAt.shaped (PyData.tuple []) = true := by decide +kernel
@[simp] theorem gEq_lnil (S : Sto) : gEq (.lst []) (.lst []) S = .ok (.bl true) S := by
  rw [gEq_ll]; simp [D.toP, D.toPs, PyData.eqv, PyData.eqvAll]
theorem same_refl : ∀ (n : Nat) (d : D) (S : Sto), D.flat n d = true → m_same n [d, d] S = .ok (.bl true) S := by
  intro n
  induction n with
  | zero => intro d S h; simp [D.flat] at h
  | succ n ih =>
    intro d S h
    have seq : ∀ xs : List D, D.flats n xs = true → ∀ (x : D), (∀ (k : Nat) S (hk : k < xs.length), gIx x (.int (k : Int)) S = .ok xs[k] S) →
        lcL (tgN 2) (tNot (cT (cCall (m_same n) (caCons (cB gIx (cV 0) (cV 2)) (caCons (cB gIx (cV 1) (cV 2)) caNil))))) (cK (.int 1)) [some x, some x, none] (rngD 0 xs.length) ([] :: S) = .ok [] ([] :: S) := by
      intro xs hx x hi
      rw [lc_rngF (p := fun _ => false) (f := fun _ => .int 1)]
      · simp
      · intro k hk
        have e := hi k ([] :: S) hk
        have := ih xs[k] ([] :: S) (flats_mem hx _ (List.getElem_mem hk))
        simp [e, this]
      · intro k _ h; cases h
    show runF 3 (c_same (m_same n)) [d, d] S = _
    rw [runF_eq]
    cases d with
    | non => simp [c_same]
    | bl b => simp [c_same]
    | int i => simp [c_same]
    | str x => simp [c_same]
    | ty m => simp [D.flat] at h
    | ref l m => simp [D.flat] at h
    | rol xs => simp [D.flat] at h
    | box b xs => simp [D.flat] at h
    | tup xs =>
      simp only [D.flat, Bool.and_eq_true, decide_eq_true_eq] at h
      have q := seq xs h.2 (.tup xs) (fun k S hk => by simp [atI_nn, hk])
      have h2 : (-16000000 : Int) ≤ xs.length := by omega
      have h3 : (xs.length : Int) ≤ 16000000 := by omega
      simp [c_same, q, h.1, h2, h3]
    | lst xs =>
      simp only [D.flat, Bool.and_eq_true, decide_eq_true_eq] at h
      have q := seq xs h.2 (.lst xs) (fun k S hk => by simp [atI_nn, hk])
      have h2 : (-16000000 : Int) ≤ xs.length := by omega
      have h3 : (xs.length : Int) ≤ 16000000 := by omega
      simp [c_same, q, h.1, h2, h3]
end MP

/-! MP: how the newer meanings are reckoned (simp): dicts, texts, exceptions; _law_same over them. -/
namespace MP
open PySem PySem.Spec PyProof.Rows L2
/-- the text of these signs -/
abbrev tx (l : List Nat) : Str := ⟨l.toArray⟩
section
variable (S : Sto) (ρ : Ro)
@[simp] theorem cSetA_eq (o i e : C) : cSetA o i e ρ S = .of ρ (e ρ S) fun d S => .of ρ (o ρ S) fun x S => .of ρ (i ρ S) fun k S => match x with
  | .ref l n => match look S l n with
    | some (.lst xs) => match k with
      | .int j => match ixN xs.length j with
        | some m => if D.les l (xs.set m d) = true then .nx ρ (put S l n (.lst (xs.set m d))) else .bad
        | none => .bad
      | _ => .bad
    | some (.box (.dK ks) ds) => match k.key with
      | some κ => if ks.length < 16000000 ∧ D.les l (putA ks ds κ d) = true then .nx ρ (put S l n (.box (.dK (putKs ks κ)) (putA ks ds κ d))) else .bad
      | none => .bad
    | _ => .bad
  | _ => .bad := (rfl)
@[simp] theorem cGet2_eq (o k e : C) : cGet2 o k e ρ S = (o ρ S).bind fun x S => match x.dict S with
  | some _ => (k ρ S).bind fun y S => (e ρ S).bind fun z S => match x.dict S with
    | some (ks, ds) => match y.key with
      | some κ => .ok ((getA ks ds κ).getD z) S
      | none => .bad
    | none => .bad
  | none => .bad := (rfl)
@[simp] theorem cMeth_eq (T : String) (g : GM) (o : C) (a : CA) : cMeth T g o a ρ S = (o ρ S).bind fun x S => if x.isT T S = true then (a ρ S).bind fun ds S => g x ds S else .bad := (rfl)
@[simp] theorem cTget_eq (t : List (Str × D)) (c : C) : cTget t c ρ S = (c ρ S).bind fun d S => match d with
  | .str x => match tabGet t x with
    | some v => .ok v S
    | none => .bad
  | _ => .bad := (rfl)
@[simp] theorem cTg1_eq (t : List (Str × D)) (c : C) : cTg1 t c ρ S = (c ρ S).bind fun d S => match d with
  | .str x => .ok ((tabGet t x).getD .non) S
  | _ => .bad := (rfl)
@[simp] theorem cTg2_eq (t : List (Str × D)) (c e : C) : cTg2 t c e ρ S = (c ρ S).bind fun d S => (e ρ S).bind fun y S => match d with
  | .str x => .ok ((tabGet t x).getD y) S
  | _ => .bad := (rfl)
@[simp] theorem ciIt_eq (c : C) : ciIt c ρ S = (c ρ S).bind fun d S => match d with
  | .tup ds => .ok ds S
  | .lst ds => .ok ds S
  | .rol ds => .ok ds S
  | .str x => .ok (signsD x) S
  | _ => .bad := (rfl)
@[simp] theorem cForA_eq (c : C) (t : Tg) (body : CS) : cForA c t body ρ S = .of ρ (c ρ S) fun d S => match d with
  | .ref l n => forI l n t body 16000001 0 ρ S
  | .tup ds => forL t body ds ρ S
  | .lst ds => forL t body ds ρ S
  | .rol ds => forL t body ds ρ S
  | .str x => forL t body (signsD x) ρ S
  | _ => .bad := (rfl)
@[simp] theorem cRaise_eq (nm : Str) (c : C) : cRaise nm c ρ S = .of ρ (c ρ S) fun d S => .err ⟨nm, [("name", .str nm), ("place", d)]⟩ ρ S := (rfl)
@[simp] theorem cTry_eq (errs : List Str) (sub : Str → Str → Bool) (b : CS) (hs : List (Str × Option Nat × (Exn → CS))) : cTry errs sub b hs ρ S = match b ρ S with
  | .err x ρ' S' => hdL errs sub hs x ρ' S'
  | r => r := (rfl)
@[simp] theorem cBoolSel_eq (x y : Str) (c : C) : cBoolSel x y c ρ S = (c ρ S).bind fun d S => match d with
  | .bl b => .ok (.str (if b then x else y)) S
  | _ => .bad := (rfl)
@[simp] theorem cDisp_eq (l : List (C × C)) : cDisp l ρ S = (dpL l ρ S).bind fun ps S => match mkD ps [] [] with
  | some (ks, ds) => .ok (.box (.dK ks) ds) S
  | none => .bad := (rfl)
@[simp] theorem dpL_nil : dpL [] ρ S = .ok [] S := (rfl)
@[simp] theorem dpL_cons (k v : C) (r : List (C × C)) : dpL ((k, v) :: r) ρ S = (k ρ S).bind fun x S => (v ρ S).bind fun y S => (dpL r ρ S).bind fun ps S => .ok ((x, y) :: ps) S := (rfl)
end
section
variable (S : Sto) (x y : D) (i j : Int) (b : Bool) (s z : Str) (xs : List D) (l n : Nat)
@[simp] theorem isRef_non : D.non.isRef = false := (rfl)
@[simp] theorem isRef_bl : (D.bl b).isRef = false := (rfl)
@[simp] theorem isRef_int : (D.int i).isRef = false := (rfl)
@[simp] theorem isRef_str : (D.str s).isRef = false := (rfl)
@[simp] theorem isRef_tup : (D.tup xs).isRef = false := (rfl)
@[simp] theorem isRef_lst : (D.lst xs).isRef = false := (rfl)
@[simp] theorem isRef_rol : (D.rol xs).isRef = false := (rfl)
@[simp] theorem gEqA_of (h : x.isRef = false) (h2 : y.isRef = false) : gEqA x y S = gEq x y S := by simp [gEqA, h, h2]
@[simp] theorem gNeA_of (h : x.isRef = false) (h2 : y.isRef = false) : gNeA x y S = gNe x y S := by simp [gNeA, h, h2]
@[simp] theorem gAddA_i : gAddA (.int i) y S = gAdd (.int i) y S := (rfl)
@[simp] theorem gAddA_s : gAddA (.str s) y S = gAdd (.str s) y S := (rfl)
@[simp] theorem gAddA_t : gAddA (.tup xs) y S = gAdd (.tup xs) y S := (rfl)
@[simp] theorem gAddA_l (ys : List D) : gAddA (.lst xs) (.lst ys) S = if xs.length + ys.length ≤ 16000000 then .ok (.lst (xs ++ ys)) S else .bad := (rfl)
@[simp] theorem gIAddA_i : gIAddA (.int i) y S = gIAdd (.int i) y S := (rfl)
@[simp] theorem gIAddA_s : gIAddA (.str s) y S = gIAdd (.str s) y S := (rfl)
@[simp] theorem dict_non : D.non.dict S = none := (rfl)
@[simp] theorem dict_bl : (D.bl b).dict S = none := (rfl)
@[simp] theorem dict_int : (D.int i).dict S = none := (rfl)
@[simp] theorem dict_str : (D.str s).dict S = none := (rfl)
@[simp] theorem dict_tup : (D.tup xs).dict S = none := (rfl)
@[simp] theorem dict_lst : (D.lst xs).dict S = none := (rfl)
@[simp] theorem dict_rol : (D.rol xs).dict S = none := (rfl)
@[simp] theorem dict_box (ks : List Key) : (D.box (.dK ks) xs).dict S = some (ks, xs) := (rfl)
@[simp] theorem dict_ref : (D.ref l n).dict S = match look S l n with
    | some (.box (.dK ks) ds) => some (ks, ds)
    | _ => none := (rfl)
@[simp] theorem gLenA_of (h : x.dict S = none) : gLenA [x] S = gLen [x] S := by simp [gLenA, h]
@[simp] theorem gItem_of (h : x.dict S = none) : gItem x y S = gIx x y S := by simp [gItem, h]
@[simp] theorem gMem_of (h : y.dict S = none) : gMem x y S = gIn x y S := by simp [gMem, h]
@[simp] theorem gNotMem_of (h : y.dict S = none) : gNotMem x y S = gNotIn x y S := by simp [gNotMem, h]
@[simp] theorem gItem_box (ks : List Key) : gItem (.box (.dK ks) xs) y S = match y.key with
    | some κ => match getA ks xs κ with
      | some d => .ok d S
      | none => .bad
    | none => .bad := (rfl)
@[simp] theorem gIntA_i : gIntA [.int i] S = .ok (.int i) S := (rfl)
@[simp] theorem gIntA_b : gIntA [.bl b] S = .ok (.int (if b then 1 else 0)) S := (rfl)
theorem gIntA_s {n : Int} (h : PySem.intText? s = some n) (hl : s.length ≤ 640) : gIntA [.str s] S = .ok (.int n) S := by simp [gIntA, gIntS, h, hl]
@[simp] theorem gLtA_i (j : Int) : gLtA (.int i) (.int j) S = gLt (.int i) (.int j) S := (rfl)
@[simp] theorem gLtA_ib (b : Bool) : gLtA (.int i) (.bl b) S = .ok (.bl (decide (i < b2i b))) S := (rfl)
@[simp] theorem gLtA_bi (b : Bool) (j : Int) : gLtA (.bl b) (.int j) S = .ok (.bl (decide (b2i b < j))) S := (rfl)
@[simp] theorem b2i_t : b2i true = 1 := (rfl)
@[simp] theorem b2i_f : b2i false = 0 := (rfl)
@[simp] theorem gLeA_i : gLeA (.int i) y S = gLe (.int i) y S := (rfl)
@[simp] theorem gGtA_i : gGtA (.int i) y S = gGt (.int i) y S := (rfl)
@[simp] theorem gGeA_i : gGeA (.int i) y S = gGe (.int i) y S := (rfl)
@[simp] theorem gLtA_s : gLtA (.str s) (.str z) S = .ok (.bl (decide (s.cps.toList < z.cps.toList))) S := (rfl)
@[simp] theorem gLeA_s : gLeA (.str s) (.str z) S = .ok (.bl (!decide (z.cps.toList < s.cps.toList))) S := (rfl)
@[simp] theorem gGtA_s : gGtA (.str s) (.str z) S = .ok (.bl (decide (z.cps.toList < s.cps.toList))) S := (rfl)
@[simp] theorem gGeA_s : gGeA (.str s) (.str z) S = .ok (.bl (!decide (s.cps.toList < z.cps.toList))) S := (rfl)
@[simp] theorem key_int : (D.int i).key = some (.inl i) := (rfl)
@[simp] theorem key_str : (D.str s).key = some (.inr s) := (rfl)
@[simp] theorem isT_str : (D.str s).isT "str" S = true := (rfl)
@[simp] theorem gSl_s (lo hi : Option Int) : gSl (.str s) lo hi S = if s.length ≤ 16000000 then .ok (.str (cutS s lo hi)) S else .bad := (rfl)
@[simp] theorem gIx_s : gIx (.str s) (.int i) S = if s.length ≤ 16000000 then match atI s.cps.toList i with
    | some c => .ok (.str ⟨#[c]⟩) S
    | none => .bad else .bad := (rfl)
@[simp] theorem gLen_s : gLen [.str s] S = if s.length ≤ 16000000 then .ok (.int s.length) S else .bad := (rfl)
@[simp] theorem gIn_s : gIn (.str s) (.str z) S = .ok (.bl (subS s z)) S := (rfl)
@[simp] theorem gNotIn_s : gNotIn (.str s) (.str z) S = .ok (.bl (!(subS s z))) S := (rfl)
@[simp] theorem gStrI_i : gStrI [.int i] S = if i.natAbs.log2 < 1920 then .ok (.str (toString i)) S else .bad := (rfl)
end
@[simp] theorem tx_len (l : List Nat) : (tx l).length = l.length := by simp [tx, Str.length]
@[simp] theorem tx_cps (l : List Nat) : (tx l).cps.toList = l := rfl
@[simp] theorem tx_eq (a b : List Nat) : (tx a = tx b) ↔ a = b := ⟨fun h => congrArg (fun x : Str => x.cps.toList) h, fun h => by rw [h]⟩
@[simp] theorem tx_app (a b : List Nat) : tx a ++ tx b = tx (a ++ b) := SX.S_cat a b
@[simp] theorem tx_cut (a : List Nat) (lo hi : Option Int) : cutS (tx a) lo hi = tx (cutL a lo hi) := by
  unfold cutS cutL
  rw [tx_len]
@[simp] theorem tx_one (c : Nat) : (⟨#[c]⟩ : Str) = tx [c] := rfl
@[simp] theorem sub_one (c : Nat) (l : List Nat) : subS (tx [c]) (tx l) = decide (c ∈ l) := rfl
@[simp] theorem signs_tx (l : List Nat) : signsD (tx l) = l.map fun c => D.str (tx [c]) := rfl
theorem join_tx (a : List Nat) (ys : List (List Nat)) : Txt.join (tx a) (ys.map tx) = tx (TL.joinL a ys) := SX.join_S a ys

@[simp] theorem strsO_nil : strsO [] = some [] := (rfl)
@[simp] theorem strsO_cons (x : Str) (ds : List D) : strsO (.str x :: ds) = match strsO ds with
    | some ys => some (x :: ys)
    | none => none := (rfl)
theorem strsO_map : ∀ {xs : List D} {zs : List Str}, strsO xs = some zs → xs = zs.map D.str
  | [], zs, h => by cases h; rfl
  | d :: xs, zs, h => by
    cases d <;> try (simp [strsO] at h; done)
    rename_i x
    rw [strsO_cons] at h
    cases q : strsO xs with
    | none => simp only [q] at h; cases h
    | some ys => simp only [q] at h; cases h; rw [strsO_map q]; rfl
theorem among_strs (w : Str) : ∀ zs : List Str, D.among (.str w) (zs.map D.str) = zs.any fun z => decide (z = w)
  | [] => rfl
  | z :: zs => by
    have ih := among_strs w zs
    unfold D.among at ih ⊢
    rw [List.map_cons, List.any_cons, List.any_cons, ih]
    have e : PyData.eqv (D.str z).toP (D.str w).toP = decide (z = w) := by
      show (z == w) = decide (z = w)
      by_cases e : z = w
      · subst e; simp
      · simp [e]
    rw [e]
theorem inB_strs {w : Str} {xs : List D} (h : (strsO xs).isSome = true) : inB (.str w) (.tup xs) = some (((strsO xs).getD []).any fun z => decide (z = w)) := by
  obtain ⟨zs, q⟩ := Option.isSome_iff_exists.mp h
  have e := strsO_map q
  rw [q, Option.getD_some, ← among_strs, ← e]
  have f : xs.all D.flat1 = true := by
    rw [e, List.all_map]
    exact List.all_eq_true.mpr fun _ _ => rfl
  simp [inB, f, D.flat1]
@[simp] theorem gIn_ts {w : Str} {xs : List D} (S : Sto) (h : (strsO xs).isSome = true) : gIn (.str w) (.tup xs) S = .ok (.bl (((strsO xs).getD []).any fun z => decide (z = w))) S := by
  unfold gIn
  rw [show (D.tup xs).top S = .tup xs from rfl, inB_strs h]
@[simp] theorem gNotIn_ts {w : Str} {xs : List D} (S : Sto) (h : (strsO xs).isSome = true) : gNotIn (.str w) (.tup xs) S = .ok (.bl (!(((strsO xs).getD []).any fun z => decide (z = w)))) S := by
  unfold gNotIn
  rw [show (D.tup xs).top S = .tup xs from rfl, inB_strs h]
@[simp] theorem isNon_box (b : Bx) (xs : List D) : (D.box b xs).isNon = false := (rfl)
@[simp] theorem kit_di : kitB "dict" "int" = some false := by decide +kernel
@[simp] theorem kit_db : kitB "dict" "bool" = some false := by decide +kernel
@[simp] theorem kit_ds : kitB "dict" "str" = some false := by decide +kernel
@[simp] theorem kit_dt : kitB "dict" "tuple" = some false := by decide +kernel
@[simp] theorem kit_dl : kitB "dict" "list" = some false := by decide +kernel
@[simp] theorem kit_dd : kitB "dict" "dict" = some true := by decide +kernel
@[simp] theorem isi_dK_int (S : Sto) (ks : List Key) (xs : List D) : gIsi [.box (.dK ks) xs, .ty "int"] S = .ok (.bl false) S := by simp [gIsi, D.tyName]
@[simp] theorem isi_dK_bool (S : Sto) (ks : List Key) (xs : List D) : gIsi [.box (.dK ks) xs, .ty "bool"] S = .ok (.bl false) S := by simp [gIsi, D.tyName]
@[simp] theorem isi_dK_str (S : Sto) (ks : List Key) (xs : List D) : gIsi [.box (.dK ks) xs, .ty "str"] S = .ok (.bl false) S := by simp [gIsi, D.tyName]
@[simp] theorem isi_dK_tuple (S : Sto) (ks : List Key) (xs : List D) : gIsi [.box (.dK ks) xs, .ty "tuple"] S = .ok (.bl false) S := by simp [gIsi, D.tyName]
@[simp] theorem isi_dK_list (S : Sto) (ks : List Key) (xs : List D) : gIsi [.box (.dK ks) xs, .ty "list"] S = .ok (.bl false) S := by simp [gIsi, D.tyName]
@[simp] theorem isi_dK_dict (S : Sto) (ks : List Key) (xs : List D) : gIsi [.box (.dK ks) xs, .ty "dict"] S = .ok (.bl true) S := by simp [gIsi, D.tyName]
/-! ### a place in a text -/
structure At (a : List Nat) (p : Nat) (r : List Nat) : Prop where
  len : p + r.length = a.length
  drop : a.drop p = r
theorem At.zero (a : List Nat) : At a 0 a := ⟨by simp, by simp⟩
theorem At.app (u v : List Nat) : At (u ++ v) u.length v := ⟨by simp, by simp⟩
theorem At.step {a : List Nat} {p : Nat} {c : Nat} {r : List Nat} (h : At a p (c :: r)) : At a (p + 1) r := by
  refine ⟨?_, ?_⟩
  · have := h.len; simp at this; omega
  · rw [← List.drop_drop, h.drop]; rfl
theorem At.get {a : List Nat} {p : Nat} {c : Nat} {r : List Nat} (h : At a p (c :: r)) : a[p]? = some c := by
  have : (a.drop p)[0]? = some c := by rw [h.drop]; rfl
  rw [List.getElem?_drop] at this
  simpa using this
theorem At.pos {a : List Nat} {p : Nat} {r : List Nat} (h : At a p r) : p = a.length - r.length := by have := h.len; omega
theorem At.cut {a : List Nat} {p : Nat} {r : List Nat} (h : At a p r) (k : Nat) : cutL a (some (p : Int)) (some ((p + k : Nat) : Int)) = r.take k := by
  rw [cutL_both, List.drop_take, h.drop]
  congr 1; omega
theorem At.cut1 {a : List Nat} {p : Nat} {r : List Nat} (h : At a p r) : cutL a (some (p : Int)) (some ((p : Int) + 1)) = r.take 1 := h.cut 1
theorem At.cut2 {a : List Nat} {p : Nat} {r : List Nat} (h : At a p r) : cutL a (some (p : Int)) (some ((p : Int) + 2)) = r.take 2 := h.cut 2
theorem At.ix {a : List Nat} {p : Nat} {c : Nat} {r : List Nat} (h : At a p (c :: r)) : atI a (p : Int) = some c := by
  rw [atI_nn (by omega)]
  simpa using h.get
/-- places p ≤ q of one text -/
theorem At.between {a : List Nat} {p q : Nat} {u r : List Nat} (h : At a p (u ++ r)) (h2 : At a q r) : cutL a (some (p : Int)) (some (q : Int)) = u := by
  have e : q = p + u.length := by have := h.len; have := h2.len; simp at *; omega
  rw [e, h.cut, List.take_left]
theorem At.over {a : List Nat} {p : Nat} {u r : List Nat} (h : At a p (u ++ r)) : At a (p + u.length) r := by
  refine ⟨?_, ?_⟩
  · have := h.len; simp at this; omega
  · rw [← List.drop_drop, h.drop, List.drop_left]

/-! ### leaving -/
theorem flat_more : ∀ {n m : Nat} {d : D}, n ≤ m → D.flat n d = true → D.flat m d = true := by
  intro n
  induction n with
  | zero => intro m d _ h; simp [D.flat] at h
  | succ n ih =>
    intro m d hm h
    obtain ⟨m, rfl⟩ : ∃ m', m = m' + 1 := ⟨m - 1, by omega⟩
    have go : ∀ xs : List D, D.flats n xs = true → D.flats m xs = true := by
      intro xs
      induction xs with
      | nil => intro _; rfl
      | cons x xs ih2 =>
        intro hx
        simp only [D.flats, Bool.and_eq_true] at hx ⊢
        exact ⟨ih (by omega) hx.1, ih2 hx.2⟩
    cases d <;> simp_all [D.flat]
theorem flats_of {n : Nat} : ∀ {xs : List D}, (∀ d ∈ xs, D.flat n d = true) → D.flats n xs = true
  | [], _ => rfl
  | x :: xs, h => by
    simp only [D.flats, Bool.and_eq_true]
    exact ⟨h x List.mem_cons_self, flats_of fun d hd => h d (List.mem_cons_of_mem _ hd)⟩
theorem fz_flat (r : List O) (l : Nat) : ∀ {n m : Nat} {d : D}, n ≤ m → D.flat n d = true → D.fz r l m d = some d := by
  intro n
  induction n with
  | zero => intro m d _ h; simp [D.flat] at h
  | succ n ih =>
    intro m d hm h
    obtain ⟨m, rfl⟩ : ∃ m', m = m' + 1 := ⟨m - 1, by omega⟩
    have go : ∀ xs : List D, D.flats n xs = true → mapO (D.fz r l m) xs = some xs := by
      intro xs
      induction xs with
      | nil => intro _; rfl
      | cons x xs ih2 =>
        intro hx
        simp only [D.flats, Bool.and_eq_true] at hx
        simp only [mapO, ih (show n ≤ m by omega) hx.1, ih2 hx.2]
    cases d with
    | non => rfl
    | bl b => rfl
    | int i => rfl
    | str x => rfl
    | ty t => rfl
    | tup xs => simp only [D.flat, Bool.and_eq_true] at h; simp only [D.fz, go xs h.2]
    | lst xs => simp only [D.flat, Bool.and_eq_true] at h; simp only [D.fz, go xs h.2]
    | rol xs => simp [D.flat] at h
    | ref a b => simp [D.flat] at h
    | box b xs => simp [D.flat] at h
theorem leave_flatD {n : Nat} {d : D} (r : List O) (S : Sto) (hn : n ≤ 40) (h : D.flat n d = true) : leave d (r :: S) = .ok d S := by
  cases r with
  | nil => rfl
  | cons o r =>
    have e := fz_flat (o :: r) S.length hn h
    simp only [leave, e]
theorem le_flat (l : Nat) : ∀ {n : Nat} {d : D}, D.flat n d = true → D.le l d = true := by
  intro n
  induction n with
  | zero => intro d h; simp [D.flat] at h
  | succ n ih =>
    intro d h
    have go : ∀ xs : List D, D.flats n xs = true → D.les l xs = true := by
      intro xs
      induction xs with
      | nil => intro _; rfl
      | cons x xs ih2 =>
        intro hx
        simp only [D.flats, Bool.and_eq_true] at hx
        simp only [D.les, Bool.and_eq_true]
        exact ⟨ih hx.1, ih2 hx.2⟩
    cases d with
    | tup xs => simp only [D.flat, Bool.and_eq_true] at h; exact go xs h.2
    | lst xs => simp only [D.flat, Bool.and_eq_true] at h; exact go xs h.2
    | rol xs => simp [D.flat] at h
    | ref a b => simp [D.flat] at h
    | box b xs => simp [D.flat] at h
    | _ => rfl
theorem les_flat (l : Nat) {n : Nat} : ∀ {xs : List D}, D.flats n xs = true → D.les l xs = true
  | [], _ => rfl
  | x :: xs, h => by
    simp only [D.flats, Bool.and_eq_true] at h
    simp only [D.les, Bool.and_eq_true]
    exact ⟨le_flat l h.1, les_flat l h.2⟩

/-! ### _law_same(told, due) -/
def c_sameA (self : Sem') : CS :=
  (cSeq (cIfS (cTB (cB gIsN (cV 1) (cK .non))) (cRet (cB gIsN (cV 0) (cK .non))) cNext)
    (cSeq (cIfS (cT (cCall gIsi (caCons (cV 1) (caCons (cK (.ty "bool")) caNil)))) (cRet (cAnd (cCall gIsi (caCons (cV 0) (caCons (cK (.ty "bool")) caNil))) (cB gEqA (cV 0) (cV 1)))) cNext)
    (cSeq (cIfS (cT (cCall gIsi (caCons (cV 1) (caCons (cK (.ty "int")) caNil)))) (cRet (cAnd (cCall gIsi (caCons (cV 0) (caCons (cK (.ty "int")) caNil))) (cAnd (cNot (cCall gIsi (caCons (cV 0) (caCons (cK (.ty "bool")) caNil)))) (cB gEqA (cV 0) (cV 1))))) cNext)
    (cSeq (cIfS (cT (cCall gIsi (caCons (cV 1) (caCons (cK (.ty "str")) caNil)))) (cRet (cAnd (cCall gIsi (caCons (cV 0) (caCons (cK (.ty "str")) caNil))) (cB gEqA (cV 0) (cV 1)))) cNext)
    (cSeq (cIfS (tOr (tAnd (cT (cCall gIsi (caCons (cV 1) (caCons (cK (.ty "list")) caNil)))) (tNot (cT (cCall gIsi (caCons (cV 0) (caCons (cK (.ty "list")) caNil)))))) (tAnd (cT (cCall gIsi (caCons (cV 1) (caCons (cK (.ty "tuple")) caNil)))) (tNot (cT (cCall gIsi (caCons (cV 0) (caCons (cK (.ty "tuple")) caNil))))))) (cRet (cK (.bl false))) cNext)
    (cRet (cAnd (cB gEqA (cCall gLenA (caCons (cV 0) caNil)) (cCall gLenA (caCons (cV 1) caNil))) (cB gEqA (cLc (ciR1 (caCons (cCall gLenA (caCons (cV 1) caNil)) caNil)) (tgN 2) (tNot (cT (cCall self (caCons (cB gItem (cV 0) (cV 2)) (caCons (cB gItem (cV 1) (cV 2)) caNil))))) (cK (.int 1)) [2]) (cLst caNil)))))))))
def m_sameA : Nat → Sem'
  | 0 => fun _ _ => .bad
  | k + 1 => runF 3 (c_sameA (m_sameA k))
theorem same_reflA : ∀ (n : Nat) (d : D) (S : Sto), D.flat n d = true → m_sameA n [d, d] S = .ok (.bl true) S := by
  intro n
  induction n with
  | zero => intro d S h; simp [D.flat] at h
  | succ n ih =>
    intro d S h
    have seq : ∀ xs : List D, D.flats n xs = true → ∀ (x : D), (∀ S, x.dict S = none) → (∀ (k : Nat) S (hk : k < xs.length), gIx x (.int (k : Int)) S = .ok xs[k] S) →
        lcL (tgN 2) (tNot (cT (cCall (m_sameA n) (caCons (cB gItem (cV 0) (cV 2)) (caCons (cB gItem (cV 1) (cV 2)) caNil))))) (cK (.int 1)) [some x, some x, none] (rngD 0 xs.length) ([] :: S) = .ok [] ([] :: S) := by
      intro xs hx x hd hi
      rw [lc_rngF (p := fun _ => false) (f := fun _ => .int 1)]
      · simp
      · intro k hk
        have e := hi k ([] :: S) hk
        have := ih xs[k] ([] :: S) (flats_mem hx _ (List.getElem_mem hk))
        simp [hd, e, this]
      · intro k _ h; cases h
    show runF 3 (c_sameA (m_sameA n)) [d, d] S = _
    rw [runF_eq]
    cases d with
    | non => simp [c_sameA]
    | bl b => simp [c_sameA]
    | int i => simp [c_sameA]
    | str x => simp [c_sameA]
    | ty m => simp [D.flat] at h
    | ref l m => simp [D.flat] at h
    | rol xs => simp [D.flat] at h
    | box b xs => simp [D.flat] at h
    | tup xs =>
      simp only [D.flat, Bool.and_eq_true, decide_eq_true_eq] at h
      have q := seq xs h.2 (.tup xs) (fun _ => rfl) (fun k S hk => by simp [atI_nn, hk])
      have h2 : (-16000000 : Int) ≤ xs.length := by omega
      have h3 : (xs.length : Int) ≤ 16000000 := by omega
      simp [c_sameA, q, h.1, h2, h3]
    | lst xs =>
      simp only [D.flat, Bool.and_eq_true, decide_eq_true_eq] at h
      have q := seq xs h.2 (.lst xs) (fun _ => rfl) (fun k S hk => by simp [atI_nn, hk])
      have h2 : (-16000000 : Int) ≤ xs.length := by omega
      have h3 : (xs.length : Int) ≤ 16000000 := by omega
      simp [c_sameA, q, h.1, h2, h3]
end MP

/-! MP: a module's dict walked, setdefault, update, sorted. -/
namespace MP
open PySem PySem.Spec PyProof.Rows L2

/-! ### for k in T, T a dict of the module -/
def Itw (ks : List Str) : It := ⟨fun i _ => i < ks.length, fun i H x H' => H' = H ∧ ∃ k, ks[i]? = some k ∧ x = .str k, fun i _ => ks.length ≤ i⟩
theorem tab_keyAt {K : PySem.W.Frag} {k : Nat} : ∀ {es : List DictEntry} {t : List (Str × D)} {i : Nat} {x : Str}, tabD K k es = some t → (t.map Prod.fst)[i]? = some x → ∃ e tk, es[i]? = some e ∧ e.key = .str x tk
  | [], t, i, x, h, q => by
    simp only [tabD, Option.some.injEq] at h
    subst h
    simp at q
  | e :: es, t, i, x, h, q => by
    unfold tabD at h
    split at h
    · rename_i y tk hk
      cases q1 : kD K k e.val with
      | none => simp [q1] at h
      | some d =>
        simp only [q1] at h
        cases q2 : tabD K k es with
        | none => simp [q2] at h
        | some r =>
          simp only [q2, Option.some.injEq] at h
          subst h
          cases i with
          | zero =>
            simp at q
            exact ⟨e, tk, rfl, by rw [hk, q]⟩
          | succ i =>
            obtain ⟨e2, tk2, a, b⟩ := tab_keyAt (i := i) q2 (by simpa using q)
            exact ⟨e2, tk2, by simpa using a, b⟩
    · cases h
theorem tab_len {K : PySem.W.Frag} {k : Nat} : ∀ {es : List DictEntry} {t : List (Str × D)}, tabD K k es = some t → es.length = t.length
  | [], t, h => by
    simp only [tabD, Option.some.injEq] at h
    subst h; rfl
  | e :: es, t, h => by
    unfold tabD at h
    split at h
    · cases q1 : kD K k e.val with
      | none => simp [q1] at h
      | some d =>
        simp only [q1] at h
        cases q2 : tabD K k es with
        | none => simp [q2] at h
        | some r =>
          simp only [q2, Option.some.injEq] at h
          subst h
          simp [tab_len q2]
    · cases h
theorem turn_tab {P : Program} {w : World} {K : PySem.W.Frag} {tg : Expr} {a : Addr} {es : Array DictEntry} {n k : Nat} {t : List (Str × D)} (it : Addr) (hl : K.lookup a = some ⟨.type "dict", none, .dict es n, #[]⟩) (ht : tabD K k es.toList = some t) :
    Turn P w K tg (Itw (t.map Prod.fst)) [it] it (fun i h => h.IsKeyIter it a i t.length n) where
  mem := by simp
  obj := fun i h st b hb => by
    obtain rfl : b = it := by simpa using hb
    obtain ⟨oi, e, c, dd⟩ := st
    exact ⟨oi, e, fun v z => by rw [dd] at z; cases z⟩
  keep := fun i h h' st kp => st.at fun oi e => kp it (by simp) oi e
  item := by
    intro X hP hw hK hc i pins s σ H E I hf st hg
    subst hP hw hK
    have hz : es.size = t.length := by rw [← tab_len ht]; simp
    have hi : i < t.length := by simpa [Itw] using hg
    obtain ⟨x, hx⟩ : ∃ x, (t.map Prod.fst)[i]? = some x := ⟨(t.map Prod.fst)[i]'(by simpa using hi), by simp [hi]⟩
    obtain ⟨e, tk, he, hk⟩ := tab_keyAt ht hx
    obtain ⟨f0, f1, f2, f3, f4, f5⟩ := hf it (by simp)
    refine next_key_item st (I.kIn _ _ hl) rfl hz (by simpa using he) fun h' st' sb => ?_
    have J : Inv X pins σ H { s with heap := h' } := I.turned (t' := s.toks) (fun b ob hb q => (sb.2 b hb).trans q) f0 f1 f3 f4 f5
    obtain ⟨oi, e1, c1, d1⟩ := id st'
    refine ⟨e.key, rfl, go_of (s := { s with heap := h' }) e1 c1 d1 (by decide) ⟨.str x, H, J, ?_, ⟨rfl, x, hx, rfl⟩, st', fun b hb => (hf b hb).1⟩⟩
    rw [hk]
    exact ⟨tk, rfl⟩
  done := by
    intro X hP hw hK hc i pins s σ H E I hf st hg
    subst hP hw hK
    have hz : es.size = t.length := by rw [← tab_len ht]; simp
    have hi : t.length ≤ i := by simpa [Itw] using hg
    obtain ⟨f0, f1, f2, f3, f4, f5⟩ := hf it (by simp)
    exact next_key_end (I.ok.hd hc) st (I.kIn _ _ hl) rfl hz hi fun h' eb => ⟨rfl, I.turned (t' := s.toks) (fun b ob hb e => eb b ob hb e) f0 f1 f3 f4 f5⟩
  self := fun A i s Q E st h => wpAny_pyIter_keyiter st h
def ciTab (t : List (Str × D)) : CI := fun _ S => .ok (t.map fun p => D.str p.1) S
theorem ir_tab {K : PySem.W.Frag} {φ : Phi} {H : Hp} (t : List (Str × D)) : IR K φ H (t.map fun p => D.str p.1) (Itw (t.map Prod.fst)) where
  go := fun φ' H' e i hi => by simpa [Itw] using hi
  yld := fun φ' H' S' e s i d y H'' hd yy => by
    obtain ⟨e1, x, hx, e2⟩ := yy
    subst e1 e2
    have : d = .str x := by
      simp only [List.getElem?_map] at hd hx
      cases q : t[i]? with
      | none => rw [q] at hd; cases hd
      | some p => rw [q] at hd hx; cases hd; cases hx; rfl
    subst this
    exact ⟨Le.refl _ _, s, .str _⟩
  stop := fun φ' H' e => by simp [Itw]
section
variable {X : Cx} {W : WX} {x : Str} {tg : Expr} {p : Pos} {t : List (Str × D)}
theorem mi_tab (T : TabOk X.K X.w X.mg x t) (hg : Gl X x) (hd : (x == ("__debug__" : Str)) = false := by decide) : MI X W tg (.Name x p) (ciTab t) := by
  obtain ⟨a, es, n, k, hm, hl, low, lit, ht⟩ := T.ex
  have pi : PI X tg (.Name x p) (fun σ H R => R (Itw (t.map Prod.fst)) H) := ⟨fun pins s σ H R I h => by
    refine thn ((pe_glob (v := .ref a) (pos := p) hg hm rfl hd).run pins s σ H (fun v H1 => v = .ref a ∧ R (Itw (t.map Prod.fst)) H1) I ⟨rfl, h⟩) fun u s1 ⟨v, H1, I1, rx, ev, q⟩ => ?_
    subst ev
    obtain rfl : u = Value.ref a := rx
    have hz : es.size = t.length := by rw [← tab_len ht]; simp
    refine iter_keys low (I1.kIn _ _ hl) ⟨rfl, rfl, rfl⟩ rfl (pi_one (tk := s1.toks) I1 _ (turn_tab _ hl ht) ⟨_, Heap.get?_push_size _ rfl, rfl, ?_⟩ q)
    rw [hz] <;> rfl⟩
  refine ⟨pi.imp fun σ H Q h => ?_⟩
  obtain ⟨ρ, φ, S, hE, hs, h⟩ := h
  exact h φ H _ (Le.refl _ _) hs (ir_tab t)
end

/-! ### d.setdefault(k, x) -/
def cSetd (o k e : C) : C := fun ρ S => (o ρ S).bind fun x S => match x with
  | .ref l n => match look S l n with
    | some (.box (.dK _) _) => (k ρ S).bind fun y S => (e ρ S).bind fun z S => match look S l n with
      | some (.box (.dK ks) ds) => match y.key with
        | some κ => match getA ks ds κ with
          | some d => if ks.length < 16000000 then .ok d S else .bad
          | none => if ks.length < 16000000 ∧ D.les l (putA ks ds κ z) = true then .ok z (put S l n (.box (.dK (putKs ks κ)) (putA ks ds κ z))) else .bad
        | none => .bad
      | _ => .bad
    | _ => .bad
  | _ => .bad
section
variable {X : Cx} {W : WX} {o e f : Expr} {co ce cf : C} {apos cpos : Pos}
theorem me_setd (ho : ME X W o co) (he : ME X W e ce) (hf : ME X W f cf) (m : M2 X o "setdefault" apos e f cpos := by exact ⟨rfl, rfl, rfl, rfl⟩) : ME X W (.Call (.Attribute o "setdefault" apos) [e, f] [] cpos) (cSetd co ce cf) := by
  refine ⟨(pe_dsetd ho.pe he.pe hf.pe m).imp fun σ H Q h => ?_⟩
  obtain ⟨ρ, φ, S, hE, hs, h⟩ := h
  refine ⟨ρ, φ, S, hE, hs, h.step fun x S1 φ1 H1 v q l s rx h => ?_⟩
  cases x with
  | ref l0 n =>
    simp only at h
    cases q1 : look S1 l0 n with
    | none => simp only [q1] at h; exact h.elim
    | some ob =>
      cases ob with
      | dead => simp only [q1] at h; exact h.elim
      | lst ds => simp only [q1] at h; exact h.elim
      | box b ds =>
        cases b with
        | dT ks => simp only [q1] at h; exact h.elim
        | ins c fs => simp only [q1] at h; exact h.elim
        | dK ks =>
          simp only [q1] at h
          obtain ⟨a, e1, e2⟩ := isD_of s rx (p := (ks, ds)) (by simp [D.dict, q1])
          refine ⟨a, e1, e2, ρ, φ1, S1, hE.mono l, s, h.step fun y S2 φ2 H2 vy q2 l2 s2 ry h => ⟨ρ, φ2, S2, (hE.mono l).mono l2, s2, h.step fun z S3 φ3 H3 vz q5 l3 s3 rz h => ?_⟩⟩
          have rx3 := (rx.mono l2).mono l3
          subst e1
          cases rx3 with
          | ref e3 =>
            cases q4 : look S3 l0 n with
            | none => simp only [q4] at h; exact h.elim
            | some ob =>
              cases ob with
              | dead => simp only [q4] at h; exact h.elim
              | lst ds => simp only [q4] at h; exact h.elim
              | box b es =>
                cases b with
                | dT ks => simp only [q4] at h; exact h.elim
                | ins c fs => simp only [q4] at h; exact h.elim
                | dK κs =>
                  simp only [q4] at h
                  obtain ⟨vs, ⟨h3, hv⟩, r⟩ := s3.obj l0 n _ a q4 e3
                  cases q6 : y.key with
                  | none => simp only [q6] at h; exact h.elim
                  | some κ =>
                    simp only [q6] at h
                    cases q7 : getA κs es κ with
                    | some d =>
                      simp only [q7] at h
                      obtain ⟨w, g1, g2⟩ := getA_some r q7
                      by_cases hle : κs.length < 16000000
                      case neg => simp only [hle, if_false] at h; exact h.elim
                      simp only [hle, if_true] at h
                      refine ⟨κs.zip vs, κ, hv, rel_key (ry.mono l3) q6, ?_, fun w' hw => ?_, fun hn => ?_⟩
                      · rw [List.length_zip, ← h3, sizeLine_eq]
                        omega
                      · rw [valV_zip h3, g1] at hw
                        cases hw
                        exact h φ3 H3 _ (Le.refl _ _) s3 g2
                      · rw [valV_zip h3, g1] at hn
                        cases hn
                    | none =>
                      simp only [q7] at h
                      by_cases hle : κs.length < 16000000 ∧ D.les l0 (putA κs es κ z) = true
                      · simp only [hle, and_self, if_true] at h
                        have g1 := getA_none r q7
                        refine ⟨κs.zip vs, κ, hv, rel_key (ry.mono l3) q6, ?_, fun w' hw => ?_, fun hn => ?_⟩
                        · have := hle.1
                          rw [List.length_zip, ← h3, sizeLine_eq]
                          omega
                        · rw [valV_zip h3, g1] at hw
                          cases hw
                        · exact h φ3 _ _ (Le.put s3 e3) (dput_ro s3 e3 q4 h3 r rz hle.2) (rz.mono (Le.put s3 e3))
                      · simp only [hle, if_false] at h
                        exact h.elim
  | _ => exact h.elim
end

/-! ### d.update(e) -/
def mrgA {α : Type} : List Key → List α → List Key → List α → List Key × List α
  | ks, as, κ :: κs, b :: bs => mrgA (putKs ks κ) (putA ks as κ b) κs bs
  | ks, as, _, _ => (ks, as)
theorem mrgA_zip : ∀ {κs : List Key} {ws : List V} {ks : List Key} {vs : List V}, ks.length = vs.length → mergeK (ks.zip vs) (κs.zip ws) = (mrgA ks vs κs ws).1.zip (mrgA ks vs κs ws).2
  | [], _, ks, vs, _ => by simp [mrgA, mergeK]
  | κ :: κs, [], ks, vs, _ => by simp [mrgA, mergeK]
  | κ :: κs, w :: ws, ks, vs, h => by
    have ih := mrgA_zip (κs := κs) (ws := ws) (putA_len (k := κ) (a := w) h)
    rw [mrgA, ← ih, ← putK_zip h]
    rfl
theorem mrgA_len {α : Type} : ∀ {κs : List Key} {bs : List α} {ks : List Key} {as : List α}, ks.length = as.length → (mrgA ks as κs bs).1.length = (mrgA ks as κs bs).2.length
  | [], _, ks, as, h => by simpa [mrgA] using h
  | κ :: κs, [], ks, as, h => by simpa [mrgA] using h
  | κ :: κs, b :: bs, ks, as, h => by rw [mrgA]; exact mrgA_len (putA_len h)
theorem mrgA_keys {α β : Type} : ∀ {κs : List Key} {bs : List α} {cs : List β} {ks : List Key} {as : List α} {ds : List β}, bs.length = cs.length → (mrgA ks as κs bs).1 = (mrgA ks ds κs cs).1
  | [], _, _, ks, as, ds, _ => by simp [mrgA]
  | κ :: κs, [], [], ks, as, ds, _ => by simp [mrgA]
  | κ :: κs, b :: bs, c :: cs, ks, as, ds, h => by rw [mrgA, mrgA]; exact mrgA_keys (by simpa using h)
theorem mrgA_rel {K : PySem.W.Frag} {φ : Phi} {H : Hp} : ∀ {κs : List Key} {es : List D} {ws : List V} {ks : List Key} {ds : List D} {vs : List V}, RelL K φ H es ws → RelL K φ H ds vs → RelL K φ H (mrgA ks ds κs es).2 (mrgA ks vs κs ws).2
  | [], _, _, ks, ds, vs, _, r => by simpa [mrgA] using r
  | κ :: κs, _, _, ks, ds, vs, .nil, r => by simpa [mrgA] using r
  | κ :: κs, _, _, ks, ds, vs, .cons q qs, r => by rw [mrgA, mrgA]; exact mrgA_rel qs (putA_rel r q)
def gUpdate : GM := fun x ds S => match x, ds with
  | .ref l n, [y] => match look S l n with
    | some (.box (.dK ks) ds) => match y.dict S with
      | some (κs, es) => if y.isRef = false ∧ ks.length + κs.length ≤ 16000000 ∧ D.les l (mrgA ks ds κs es).2 = true then .ok .non (put S l n (.box (.dK (mrgA ks ds κs es).1) (mrgA ks ds κs es).2)) else .bad
      | none => .bad
    | _ => .bad
  | _, _ => .bad
def rUpd : V → List V → Hp → VK → Prop := fun x xs H Q => ∃ (a b : Addr) (kvs more : List (Key × V)), x = .ref a ∧ xs = [.ref b] ∧ a ≠ b ∧ H a = some (.dK kvs) ∧ H b = some (.dK more) ∧ kvs.length + more.length ≤ sizeLine ∧ Q .non (upd H a (.dK (mergeK kvs more)))
theorem mt_update {X : Cx} : MtR X "dict.update" rUpd := by
  intro pins s σ H x xs u us Q I rx rs h
  obtain ⟨a, b, kvs, more, e1, e2, ne, ha, hb, hz, q⟩ := h
  subst e1; subst e2
  obtain rfl : u = Value.ref a := rx
  rw [Vals.ref1 rs]
  obtain ⟨z1, d1, vs, r1, dd1⟩ := dk_of I.hok ha
  obtain ⟨z2, d2, ws, r2, dd2⟩ := dk_of I.hok hb
  have hz2 : vs.length + ws.length ≤ sizeLine := by rw [← r1.length, ← r2.length]; exact hz
  refine call_meetsIn PySem.F.slot_dict_update dd1.typeIs PySem.F.entry_dict_update (PySem.F.args_dict_update_2 _ _) (meets_dict_update (mixKind X.prog X.w) a b ne d2) ⟨vs, ws, dd1, dd2, hz2, fun h' dd' _ hs => ?_⟩
  have hl : (mergeK kvs more).length ≤ sizeLine := Nat.le_trans (length_mergeK more kvs) hz
  have he : ∃ q, h'.get? a = some q := let ⟨q, _, _, hq, _⟩ := dd'; ⟨q, hq⟩
  exact ⟨.non, _, d_write (t' := s.toks) I (by rw [ha]; exact True.intro) hs he (dk_new hl d1 (KV.merge r2 r1) dd'), rfl, q⟩
theorem km_update {X : Cx} : KM X "dict" "update" gUpdate := ⟨F.plainAttrs_dict, _, _, F.slot_dict_update, F.type_dict_update, mt_update, fun W σ φ H S x vx ds vs Q s rx r z => by
  unfold gUpdate at z
  split at z
  · rename_i l n y
    obtain ⟨v, rfl, ry⟩ := relD1 r
    cases rx
    rename_i p e
    cases q : look S l n with
    | none => simp only [q] at z; exact z.elim
    | some o =>
      cases o with
      | dead => simp only [q] at z; exact z.elim
      | lst xs => simp only [q] at z; exact z.elim
      | box b ds =>
        cases b with
        | dT ks => simp only [q] at z; exact z.elim
        | ins c fs => simp only [q] at z; exact z.elim
        | dK ks =>
          simp only [q] at z
          cases q2 : y.dict S with
          | none => simp only [q2] at z; exact z.elim
          | some t =>
            obtain ⟨κs, es⟩ := t
            simp only [q2] at z
            by_cases hle : y.isRef = false ∧ ks.length + κs.length ≤ 16000000 ∧ D.les l (mrgA ks ds κs es).2 = true
            · rw [if_pos hle] at z
              obtain ⟨vs, ⟨h3, hv⟩, r4⟩ := s.obj l n _ p q e
              obtain ⟨a2, ws, f1, f2, f3, f4⟩ := rel_dict s ry q2
              have ne : p ≠ a2 := by
                intro w
                subst f1
                cases ry with
                | box at_ nn aw rr => exact aw.1 _ _ (by rw [← w]; exact e)
                | ref e2 => simp [D.isRef] at hle
                | _ => simp [D.dict] at q2
              refine ⟨p, a2, ks.zip vs, κs.zip ws, rfl, by rw [f1], ne, hv, f2, ?_, ?_⟩
              · rw [List.length_zip, List.length_zip, ← h3, ← f3, sizeLine_eq]
                omega
              · have lw : es.length = ws.length := f4.length
                rw [mrgA_zip h3]
                refine z φ _ _ (Le.put s e) (s.put e q hle.2.2 ⟨_, ⟨?_, ?_⟩, RelL.mono (Le.put s e) (mrgA_rel f4 r4)⟩) .non
                · rw [mrgA_keys (ds := vs) lw]
                  exact mrgA_len h3
                · rw [upd_same, mrgA_keys (ds := vs) lw]
            · rw [if_neg hle] at z
              exact z.elim
  · exact z.elim⟩

/-! ### x is True -/
def gIsB : G2
  | .bl a, .bl b, S => .ok (.bl (decide (a = b))) S
  | _, _, _ => .bad
def gNotB : G2
  | .bl a, .bl b, S => .ok (.bl (!decide (a = b))) S
  | _, _, _ => .bad
section
variable {X : Cx}
theorem os_isB : OS X (compareOp .Is) gIsB := by
  refine ⟨_, op_isBl, fun W σ φ H S x y vx vy Q s rx ry z => ?_⟩
  cases rx <;> first | exact z.elim | skip
  cases ry <;> first | exact z.elim | skip
  exact ⟨_, _, rfl, rfl, z φ H _ (Le.refl _ _) s (.bl _)⟩
theorem os_notB : OS X (compareOp .IsNot) gNotB := by
  refine ⟨_, op_notBl, fun W σ φ H S x y vx vy Q s rx ry z => ?_⟩
  cases rx <;> first | exact z.elim | skip
  cases ry <;> first | exact z.elim | skip
  exact ⟨_, _, rfl, rfl, z φ H _ (Le.refl _ _) s (.bl _)⟩
end

/-! ### T.index(x), T a tuple of texts of the module -/
def idxS (z : Str) : List Str → Nat → Option Nat
  | [], _ => none
  | y :: ys, i => if y = z then some i else idxS z ys (i + 1)
theorem idxS_ok (z : Str) : ∀ (ys : List Str) (i j : Nat), idxS z ys i = some j → i ≤ j ∧ ys[j - i]? = some z ∧ ∀ m, m < j - i → ys[m]? ≠ some z
  | [], i, j, h => by cases h
  | y :: ys, i, j, h => by
    unfold idxS at h
    split at h
    · rename_i e
      cases h
      subst e
      exact ⟨Nat.le_refl _, by simp, fun m hm => by omega⟩
    · rename_i e
      obtain ⟨h1, h2, h3⟩ := idxS_ok z ys (i + 1) j h
      obtain ⟨k, hk⟩ : ∃ k, j - i = k + 1 := ⟨j - i - 1, by omega⟩
      have hk2 : j - (i + 1) = k := by omega
      rw [hk2] at h2 h3
      refine ⟨by omega, by rw [hk]; simpa using h2, fun m hm => ?_⟩
      cases m with
      | zero => simpa using e
      | succ m => rw [List.getElem?_cons_succ]; exact h3 m (by omega)
structure TupOk (K : PySem.W.Frag) (mg : Str → Option Value) (x : Str) (ds : List D) : Prop where
  ex : ∃ a its n k sl, mg x = some (.ref a) ∧ K.lookup a = some ⟨.type "tuple", none, .seq its n, sl⟩ ∧ kD K k (.ref a) = some (.tup ds)
theorem tup_of {K : PySem.W.Frag} {mg : Str → Option Value} {x : Str} {ds : List D} {a : Addr} {its : Array Value} {n k : Nat} {sl : Array (Option Value)} (h1 : mg x = some (.ref a)) (h2 : K.lookup a = some ⟨.type "tuple", none, .seq its n, sl⟩) (h3 : kD K k (.ref a) = some (.tup ds)) : TupOk K mg x ds := ⟨a, its, n, k, sl, h1, h2, h3⟩
def cTidx (ys : List D) (a : CA) : C := fun ρ S => (a ρ S).bind fun ds S => match ds with
  | [.str z] => match strsO ys with
    | some zs => match idxS z zs 0 with
      | some j => .ok (.int (j : Int)) S
      | none => .bad
    | none => .bad
  | _ => .bad
section
variable {X : Cx} {W : WX} {x : Str} {e : Expr} {es : List Expr} {ca : CA} {p apos cpos : Pos} {ys : List D}
theorem me_tidx (T : TupOk X.K X.mg x ys) (hg : Gl X x) (ha : MA X W (e :: es) ca) (hd : (x == ("__debug__" : Str)) = false := by decide) (hbase : attributeBase (.Name x p) "index" X.env (eval (.Name x p) X.env) = eval (.Name x p) X.env := by rfl)
    (hfew : ((backTo cpos (starEach (e :: es) X.env)).all (fun x => !x.1) && (backToKw cpos (keywordEach [] X.env)).all (fun x => x.1.isSome)
      && decide ((e :: es).length + ([] : List Keyword).length + (if ([] : List Keyword).isEmpty then 0 else 1) < 30)) = true := by rfl)
    (hline : (apos.endLine == cpos.line) = true := by rfl) (hs : starEach (e :: es) X.env = (false, eval e X.env) :: starEach es X.env := by rfl) (hplain : (backTo cpos (starEach es X.env)).any (·.1) = false := by rfl) :
    ME X W (.Call (.Attribute (.Name x p) "index" apos) (e :: es) [] cpos) (cTidx ys ca) := by
  obtain ⟨a, its, n, k, sl, h1, h2, h3⟩ := T.ex
  refine ⟨(pe_bm F.plainAttrs_tuple F.slot_tuple_index F.type_tuple_index mt_tup_index (pe_glob (v := .ref a) hg h1 rfl hd) ha.pa hbase hfew hline hs hplain).imp fun σ H Q h => ?_⟩
  refine ⟨.inr (.inl ⟨rfl, _, h2, rfl, rfl⟩), ?_⟩
  obtain ⟨ρ, φ, S, hE, hS, h⟩ := h
  refine ⟨ρ, φ, S, hE, hS, h.step fun ds S1 φ1 H1 vs q l s r z => ?_⟩
  split at z
  · rename_i w
    obtain ⟨v, rfl, rw'⟩ := relD1 r
    cases rw'
    cases q1 : strsO ys with
    | none => simp only [q1] at z; exact z.elim
    | some zs =>
      simp only [q1] at z
      cases q2 : idxS w zs 0 with
      | none => simp only [q2] at z; exact z.elim
      | some j =>
        simp only [q2] at z
        obtain ⟨_, g2, g3⟩ := idxS_ok w zs 0 j q2
        obtain ⟨v, e1, e2⟩ := kD_rel k h3
        obtain rfl : v = .ref a := by
          cases v with
          | ref b => cases e1; rfl
          | _ => cases e2 φ1 H1
        have rt := e2 φ1 H1
        cases rt with
        | tup zz f rr =>
          rw [strsO_rel rr q1] at f
          exact ⟨a, zs, w, j, rfl, rfl, f.sq, by simpa using g2, by simpa using g3, z φ1 H1 _ (Le.refl _ _) s (.int _)⟩
  · exact z.elim
end

theorem ms_parT {X : Cx} {W : WX} {i j k : Nat} {x y z : Str} {a b c : Expr} {ca : CA} {px py pz pt pos : Pos} {kt k2 pt2} (hc : X.calm = true) (hN : X.N.Nodup) (hi : X.N[i]? = some x) (hj : X.N[j]? = some y) (hk : X.N[k]? = some z) (hij : i ≠ j) (hik : i ≠ k) (hjk : j ≠ k)
    (hx : X.env.scope.names.lookup x = some .local) (hy : X.env.scope.names.lookup y = some .local) (hz : X.env.scope.names.lookup z = some .local) (ha : MA X W [a, b, c] ca)
    (hw : swappedStores [.Tuple [.Name x px, .Name y py, .Name z pz] kt pt] (.Tuple [a, b, c] k2 pt2) X.env = pure (some [x, y, z])) :
    MS X W (.Assign [.Tuple [.Name x px, .Name y py, .Name z pz] kt pt] (.Tuple [a, b, c] k2 pt2) pos) (cPar [i, j, k] ca) :=
  ms_par3 hc hN hi hj hk hij hik hjk (ps_par3 hc hN hi hj hk hij hik hjk hx hy hz ha.pa hw)
end MP

/-! MP: sorted, set. -/
namespace MP
open PySem PySem.Spec PyProof.Rows L2

/-! ### plain sorting -/
def insI (x : Int) : List Int → List Int
  | [] => [x]
  | y :: ys => if x ≤ y then x :: y :: ys else y :: insI x ys
def sortI : List Int → List Int
  | [] => []
  | x :: xs => insI x (sortI xs)
theorem insI_perm (x : Int) : ∀ ys : List Int, (insI x ys).Perm (x :: ys)
  | [] => List.Perm.refl _
  | y :: ys => by
    unfold insI
    split
    · exact List.Perm.refl _
    · exact ((insI_perm x ys).cons y).trans (List.Perm.swap x y ys)
theorem sortI_perm : ∀ xs : List Int, (sortI xs).Perm xs
  | [] => List.Perm.refl _
  | x :: xs => (insI_perm x (sortI xs)).trans ((sortI_perm xs).cons x)
theorem insI_sorted (x : Int) : ∀ ys : List Int, ys.Pairwise (· ≤ ·) → (insI x ys).Pairwise (· ≤ ·)
  | [], _ => List.pairwise_singleton _ _
  | y :: ys, h => by
    unfold insI
    split
    · rename_i c
      refine List.pairwise_cons.mpr ⟨fun z hz => ?_, h⟩
      rcases List.mem_cons.mp hz with rfl | hz
      · exact c
      · exact Int.le_trans c ((List.pairwise_cons.mp h).1 z hz)
    · rename_i c
      refine List.pairwise_cons.mpr ⟨fun z hz => ?_, insI_sorted x ys (List.pairwise_cons.mp h).2⟩
      rcases List.mem_cons.mp ((insI_perm x ys).mem_iff.mp hz) with rfl | hz
      · omega
      · exact (List.pairwise_cons.mp h).1 z hz
theorem sortI_sorted : ∀ xs : List Int, (sortI xs).Pairwise (· ≤ ·)
  | [] => List.Pairwise.nil
  | x :: xs => insI_sorted x _ (sortI_sorted xs)
theorem sortI_uniq {xs ys : List Int} (p : ys.Perm xs) (s : ys.Pairwise (· ≤ ·)) : ys = sortI xs :=
  List.Perm.eq_of_pairwise (fun a b _ _ h1 h2 => Int.le_antisymm h1 h2) s (sortI_sorted xs) (p.trans (sortI_perm xs).symm)
def insU (x : Int) : List Int → List Int
  | [] => [x]
  | y :: ys => if x < y then x :: y :: ys else if x = y then y :: ys else y :: insU x ys
/-- the distinct ones, rising -/
def sortU : List Int → List Int
  | [] => []
  | x :: xs => insU x (sortU xs)
theorem insU_mem (x : Int) : ∀ (ys : List Int) (z : Int), z ∈ insU x ys ↔ z = x ∨ z ∈ ys
  | [], z => by simp [insU]
  | y :: ys, z => by
    unfold insU
    split
    · simp
    · split
      · rename_i e; subst e; simp
      · rw [List.mem_cons, insU_mem x ys z, List.mem_cons]
        constructor
        · rintro (h | h | h) <;> simp [h]
        · rintro (h | h | h) <;> simp [h]
theorem sortU_mem (z : Int) : ∀ xs : List Int, z ∈ sortU xs ↔ z ∈ xs
  | [] => by simp [sortU]
  | x :: xs => by rw [sortU, insU_mem, sortU_mem z xs, List.mem_cons]
theorem insU_sorted (x : Int) : ∀ ys : List Int, ys.Pairwise (· < ·) → (insU x ys).Pairwise (· < ·)
  | [], _ => List.pairwise_singleton _ _
  | y :: ys, h => by
    unfold insU
    split
    · rename_i c
      refine List.pairwise_cons.mpr ⟨fun z hz => ?_, h⟩
      rcases List.mem_cons.mp hz with rfl | hz
      · exact c
      · exact Int.lt_trans c ((List.pairwise_cons.mp h).1 z hz)
    · split
      · exact h
      · refine List.pairwise_cons.mpr ⟨fun z hz => ?_, insU_sorted x ys (List.pairwise_cons.mp h).2⟩
        rcases (insU_mem x ys z).mp hz with rfl | hz
        · omega
        · exact (List.pairwise_cons.mp h).1 z hz
theorem sortU_sorted : ∀ xs : List Int, (sortU xs).Pairwise (· < ·)
  | [] => List.Pairwise.nil
  | x :: xs => insU_sorted x _ (sortU_sorted xs)
theorem rising_uniq : ∀ {xs ys : List Int}, xs.Pairwise (· < ·) → ys.Pairwise (· < ·) → (∀ z, z ∈ xs ↔ z ∈ ys) → xs = ys
  | [], [], _, _, _ => rfl
  | [], y :: ys, _, _, h => absurd ((h y).mpr List.mem_cons_self) (by simp)
  | x :: xs, [], _, _, h => absurd ((h x).mp List.mem_cons_self) (by simp)
  | x :: xs, y :: ys, hx, hy, h => by
    obtain ⟨hx1, hx2⟩ := List.pairwise_cons.mp hx
    obtain ⟨hy1, hy2⟩ := List.pairwise_cons.mp hy
    have e : x = y := by
      rcases List.mem_cons.mp ((h x).mp List.mem_cons_self) with e | e
      · exact e
      · rcases List.mem_cons.mp ((h y).mpr List.mem_cons_self) with e2 | e2
        · exact e2.symm
        · have := hy1 x e; have := hx1 y e2; omega
    subst e
    rw [rising_uniq hx2 hy2 fun z => ?_]
    have hz := h z
    constructor
    · intro m
      rcases List.mem_cons.mp (hz.mp (List.mem_cons_of_mem _ m)) with e | e
      · subst e; have := hx1 z m; omega
      · exact e
    · intro m
      rcases List.mem_cons.mp (hz.mpr (List.mem_cons_of_mem _ m)) with e | e
      · subst e; have := hy1 z m; omega
      · exact e
theorem sortU_uniq {xs ys : List Int} (s : ys.Pairwise (· < ·)) (h : ∀ z, z ∈ ys ↔ z ∈ xs) : ys = sortU xs :=
  rising_uniq s (sortU_sorted xs) fun z => (h z).trans (sortU_mem z xs).symm

/-! ### sorted -/
def inlO : List Key → Option (List Int)
  | [] => some []
  | .inl i :: ks => match inlO ks with
    | some is => some (i :: is)
    | none => none
  | _ :: _ => none
theorem inlO_eq : ∀ {ks : List Key} {is : List Int}, inlO ks = some is → ks = is.map Sum.inl
  | [], is, h => by simp only [inlO, Option.some.injEq] at h; subst h; rfl
  | .inl i :: ks, is, h => by
    unfold inlO at h
    cases q : inlO ks with
    | none => simp [q] at h
    | some js => simp only [q, Option.some.injEq] at h; subst h; rw [inlO_eq q]; rfl
  | .inr _ :: ks, is, h => by simp [inlO] at h
def gSortL : List D → Sto → R D := fun ds S => match ds with
  | [x] => if x.isT "list" S = true then match x.items S with
      | some xs => match toInts xs with
        | some ns => if ns.length ≤ 16000000 then .ok (.lst ((sortI ns).map D.int)) S else .bad
        | none => .bad
      | none => .bad
    else .bad
  | _ => .bad
def gSortD : List D → Sto → R D := fun ds S => match ds with
  | [x] => match x.dict S with
    | some (ks, _) => match inlO ks with
      | some is => if is.length < 64 then .ok (.lst ((sortI is).map D.int)) S else .bad
      | none => .bad
    | none => .bad
  | _ => .bad
def gSorted : List D → Sto → R D := fun ds S => match ds with
  | [x] => match x.dict S with
    | some _ => gSortD [x] S
    | none => gSortL [x] S
  | _ => .bad
section
variable {X : Cx}
theorem new_ints {W : WX} {σ : L2.St} {φ : Phi} {H : Hp} {S : Sto} {ns : List Int} {Q : VK} {p : Addr} (s : RS X.K φ H S) (hp : H p = none) (hz : ns.length ≤ 16000000) (z : Ok X.K X.mg (Rel X.K) φ H (fun cls d H' => W cls d σ H') Q (.ok (.lst (ns.map D.int)) S)) : Q (.ref p) (upd H p (.lst (ns.map V.int))) :=
  z φ _ _ (Le.fresh hp) (s.laid hp) (.lst (by rw [List.length_map]; exact line_ge hz) upd_same (s.fresh hp) ((RelL.ints ns).laid hp))
theorem ks_sortL : KS X (.builtin "sorted") gSortL := by
  refine ⟨_, cr_sortedI, fun W σ φ H S ds vs Q s r z => ?_⟩
  unfold gSortL at z
  split at z
  · rename_i x
    obtain ⟨v, rfl, rx⟩ := relD1 r
    by_cases ht : x.isT "list" S = true
    · simp only [ht, if_true] at z
      cases q1 : x.items S with
      | none => simp only [q1] at z; exact z.elim
      | some xs =>
        simp only [q1] at z
        cases q2 : toInts xs with
        | none => simp only [q2] at z; exact z.elim
        | some ns =>
          simp only [q2] at z
          by_cases hz : ns.length ≤ 16000000
          · rw [if_pos hz] at z
            obtain ⟨a, ws, rfl, h1, h2⟩ := rel_itemsL s rx q1 ht
            rw [toInts_eq q2] at h2
            rw [RelL.ints_inv h2] at h1
            refine ⟨a, ns, rfl, h1, fun ns' p pm sr hp => ?_⟩
            rw [sortI_uniq pm sr]
            exact new_ints s hp (by rw [(sortI_perm ns).length_eq]; exact hz) z
          · rw [if_neg hz] at z; exact z.elim
    · rw [if_neg ht] at z; exact z.elim
  · exact z.elim
theorem ks_sortD (hc : X.calm = true) : KS X (.builtin "sorted") gSortD := by
  refine ⟨_, call_sortedDI hc, fun W σ φ H S ds vs Q s r z => ?_⟩
  unfold gSortD at z
  split at z
  · rename_i x
    obtain ⟨v, rfl, rx⟩ := relD1 r
    cases q1 : x.dict S with
    | none => simp only [q1] at z; exact z.elim
    | some t =>
      obtain ⟨ks, ds⟩ := t
      simp only [q1] at z
      cases q2 : inlO ks with
      | none => simp only [q2] at z; exact z.elim
      | some is =>
        simp only [q2] at z
        by_cases hz : is.length < 64
        · rw [if_pos hz] at z
          obtain ⟨a, ws, rfl, h2, h3, h4⟩ := rel_dict s rx q1
          refine ⟨a, ks.zip ws, is, rfl, .inl h2, ?_, hz, fun ys p pm sr hp => ?_⟩
          · rw [List.map_fst_zip (by omega)]
            exact inlO_eq q2
          · rw [sortI_uniq pm sr]
            exact new_ints s hp (by rw [(sortI_perm is).length_eq]; omega) z
        · rw [if_neg hz] at z; exact z.elim
  · exact z.elim
theorem ks_sorted (hc : X.calm = true) : KS X (.builtin "sorted") gSorted := KS.or (ks_sortD hc) ks_sortL fun ds S => by
  unfold gSorted
  split
  · rename_i x
    cases x.dict S with
    | none => exact .inr rfl
    | some t => exact .inl rfl
  · rename_i h
    refine .inl ?_
    unfold gSortD
    split
    · exact absurd rfl (h _)
    · rfl
end
end MP

/-! MP: sorted(set(xs)) of ints. -/
namespace MP
open PySem PySem.Spec PyProof.Rows L2
section
variable {P : Program} {w : World} {A : Around} {E : Value → Shared → Prop} {s : Shared}
/-- the set's object when it is new -/
abbrev setO0 (w : World) : Obj := { cls := .type "set", dict := none, data := .set #[] 0 (.fresh 0 0 (!w.params.followText "set-order")) }
set_option maxRecDepth 100000 in
theorem call_set_lstI {l : Addr} {items : Array Value} (ns : List Int) {Q : Value → Shared → Prop} (hh : A.handled = none) (hl : s.heap.IsList l items) (hit : IntsAre items.toList ns) (hb : ns.length + 1 < scanBound)
    (h : ∀ (h' : Heap) (tk c : Nat), SetR w h' s.heap.objs.size (fun j => decide (j ∈ ns)) c → c ≤ ns.length → (∀ b o, s.heap.get? b = some o → h'.get? b = some o) → Q (.ref s.heap.objs.size) { s with heap := h', toks := tk }) :
    wpAny (model P w) A (call (.type "set") [.ref l]) Q E s := by
  have hisz : items.size = ns.length := by have q := IntsAre.length hit; rwa [Array.length_toList] at q
  obtain ⟨c0, tl0, hmro⟩ := F.called_set.mro
  have hmade := F.called_set.made
  have hsub := F.called_set.sub
  refine wpAny_call (codeAny_of_tree (show wpAny _ _ (callAny (.type "set") _) _ _ _ from ?_))
  refine wpAny_pure ⟨Code.quiet_builtin _ (by decide +kernel), codeAny_builtin F.entry_type_call ?_⟩
  rw [Around.under_plain (weight_type_call_type "set" [.ref l] []) rfl]
  have h1 := F.called_set.notType; have h2 := F.called_set.canCreate; have hct := F.typeCall_set_1 (.ref l)
  repeat (any_goals (first | assumption | wp_step))
  refine codeAny_mono (code_set_led1 (.ref l) (E := E) (Q₁ := fun obj s₁ => obj = .ref s.heap.objs.size ∧ s₁ = { s with heap := s.heap.push (setO0 w) }) ⟨rfl, rfl⟩) fun r s₁ hr => ?_
  cases r with
  | error e => exact hr
  | ok fl =>
    cases fl with
    | ret obj =>
      obtain ⟨rfl, rfl⟩ := hr
      have hS : (s.heap.push (setO0 w)).get? s.heap.objs.size = some (setO0 w) := Heap.get?_push_size _ rfl
      have hT : Shared.TypeIs { s with heap := s.heap.push (setO0 w) } (.ref s.heap.objs.size) "set" := ⟨_, hS, rfl⟩
      have hli := F.called_set.init.lookup; have hbi := F.called_set.init.bind (.ref s.heap.objs.size)
      repeat (any_goals (first | assumption | wp_step))
      refine codeAny_mono (codeAny_call_builtin (R := wants (fun r s₂ => r = .none ∧ ∃ h' tk c, s₂ = { s with heap := h', toks := tk } ∧ SetR w h' s.heap.objs.size (fun j => decide (j ∈ ns)) c ∧ c ≤ ns.length ∧ (∀ b o, s.heap.get? b = some o → h'.get? b = some o)) E)
        F.called_set.init.plain F.entry_set_init (check_set_init_1 hT ?_)) fun r₂ s₂ hr₂ => ?_
      · obtain ⟨ol, hol, hcl, nl, hdl⟩ := hl
        obtain ⟨ocls, odict, odata, oslots⟩ := ol
        simp only at hcl hdl
        subst hcl; subst hdl
        have hol' := Heap.get?_push_of_some (setO0 w) hol
        have hsls := F.sub_list_set; have hslf := F.sub_list_frozenset
        have hne : (Value.type "list" == Value.type "dict") = false := by decide
        have hl1 : (s.heap.push (setO0 w)).IsList l items := ⟨_, hol', rfl, nl, rfl⟩
        unfold Builtin.«set.__init__» noKeywords Builtin.Frozenset.updateFrom
        generalize hPI : pyIter = PI
        wp_walk
        subst hPI
        refine wpAny_pyIter_list hl1 (wpAny_bind (wpAny_runValue ?_))
        have lt : l < s.heap.objs.size := Heap.lt_size hol
        have hin : A.in1.in1.in1.handled = none := by simp [hh]
        have psz : (s.heap.push (setO0 w)).objs.size = s.heap.objs.size + 1 := Heap.size_push ..
        have nel : l ≠ (s.heap.push (setO0 w)).objs.size := by rw [psz]; exact Nat.ne_of_lt (Nat.lt_succ_of_lt lt)
        have nfp : s.heap.objs.size ∉ [(s.heap.push (setO0 w)).objs.size, l] := by
          rw [psz]
          simp only [List.mem_cons, List.not_mem_nil, or_false, not_or]
          exact ⟨Nat.ne_of_lt (Nat.lt_succ_self _), Nat.ne_of_gt lt⟩
        have each : ∀ (i : Nat) (v : Value), items[i]? = some v → ∃ k t, ns[i]? = some k ∧ v = .int k t := fun i v hv => by
          have hi : i < ns.length := by rw [← hisz]; exact (Array.getElem?_eq_some_iff.mp hv).1
          obtain ⟨t, e⟩ := PyProof.Rows.IntsAre.int_at hit i v (by rw [Array.getElem?_toList]; exact hv)
          refine ⟨ns[i], t, List.getElem?_eq_getElem hi, ?_⟩
          rw [e, List.getD_eq_getElem?_getD, List.getElem?_eq_getElem hi] <;> rfl
        refine set_update_ints ((Walks.list hin _ l nel items).toS) s.heap.objs.size nfp ns hisz hb each (items.size - 0) 0 _ (by omega) (Nat.zero_le _) ⟨⟨_, Heap.get?_push_size _ rfl, rfl, rfl⟩, (hl1.push _)⟩ ?hS0 ?hR
        case hS0 => exact ⟨0, Nat.le_refl 0, setR_new_at (Heap.get?_push_of_some _ hS)⟩
        case hR =>
          intro s' c' hm hc' hS'
          obtain ⟨h', g2, d', tk', os'⟩ := s'
          obtain rfl : g2 = s.gens := hm.gens
          obtain rfl : d' = s.drawn := hm.drawn
          obtain rfl : os' = s.os := hm.os
          refine show wpAny _ _ _ _ _ _ from wpAny_pure (show wpAny _ _ (ret Value.none) _ _ _ from ?_)
          rw [hisz] at hc'
          refine wpAny_pure ⟨rfl, h', tk', c', rfl, hS', hc', fun b o e => ?_⟩
          have hb0 : b < s.heap.objs.size := Heap.lt_size e
          exact hm.heap b o (by rw [psz]; simp only [List.mem_cons, List.not_mem_nil, or_false, not_or]; exact ⟨Nat.ne_of_lt hb0, Nat.ne_of_lt (Nat.lt_succ_of_lt hb0)⟩) (Heap.get?_push_of_some _ (Heap.get?_push_of_some _ e))
      · cases r₂ with
        | error e => exact hr₂
        | ok fl₂ =>
          cases fl₂ with
          | ret r =>
            obtain ⟨rfl, h', tk, c', rfl, hS', hc', hk'⟩ := hr₂
            repeat (any_goals (first | assumption | wp_step))
            exact h _ _ _ hS' hc' hk'
          | _ => exact hr₂.elim
    | _ => exact hr.elim
end

def rSetI (K : PySem.W.Frag) (w : World) : List V → Hp → VK → Prop := fun xs H Q => ∃ (l : Addr) (ns : List Int), xs = [V.ref l] ∧ (SqL K H l (ns.map V.int) ∨ SqT K H l (ns.map V.int)) ∧ ns.length ≤ 1000 ∧
  ∀ p c, H p = none → c ≤ ns.length → Q (.ref p) (upd H p (SetO w p (fun j => decide (j ∈ ns)) c))
section
variable {X : Cx}
theorem cr_setI (hc : X.calm = true) : CallR X (.type "set") (rSetI X.K X.w) := by
  intro pins s σ H xs us Q I r h
  obtain ⟨l, ns, rfl, hq, hz, q⟩ := h
  rw [Vals.ref1 r]
  have hn : H s.heap.objs.size = none := I.hok.fresh (Nat.le_refl _)
  have hb : ns.length + 1 < scanBound := by unfold scanBound; omega
  rcases hq with hq | hq
  · obtain ⟨its, rv, pl, hl⟩ := I.list hq
    refine call_set_lstI (P := X.prog) (w := X.w) ns (I.ok.hd hc) pl.isList (ints_of_vals rv) hb fun h' tk c R hcn k => ?_
    exact ⟨.ref s.heap.objs.size, _, I.laid (t' := tk) k (Nat.le_refl _) (setO_new R), rfl, q _ c hn hcn⟩
  · obtain ⟨its, rv, pl, hl⟩ := I.tuple hq
    refine call_set_tupI (P := X.prog) (w := X.w) ns (I.ok.hd hc) (show s.heap.IsTuple l its.toArray from pl) (ints_of_vals rv) hb fun h' tk c R hcn k => ?_
    exact ⟨.ref s.heap.objs.size, _, I.laid (t' := tk) k (Nat.le_refl _) (setO_new R), rfl, q _ c hn hcn⟩
end
/-- sorted(set(xs)) -/
def cSSet (c : C) : C := fun ρ S => (c ρ S).bind fun d S => match d.items S with
  | some xs => match toInts xs with
    | some ns => if ns.length < 64 then .ok (.lst ((sortU ns).map D.int)) S else .bad
    | none => .bad
  | none => .bad
section
variable {X : Cx} {W : WX} {e : Expr} {c : C} {p q pos : Pos} {p2 : Pos}
theorem sortU_len (xs : List Int) : (sortU xs).length ≤ xs.length := by
  induction xs with
  | nil => simp [sortU]
  | cons x xs ih =>
    have : ∀ ys : List Int, (insU x ys).length ≤ ys.length + 1 := by
      intro ys
      induction ys with
      | nil => simp [insU]
      | cons y ys ih => unfold insU; split; simp; split; simp; simp; omega
    rw [sortU, List.length_cons]
    have := this (sortU xs)
    omega
theorem me_sortSet (hc : X.calm = true) (hg : Gl X "sorted") (hm : X.mg "sorted" = none) (hg2 : Gl X "set") (hm2 : X.mg "set" = none) (he : ME X W e c)
    (hs : starEach [e] X.env = (false, eval e X.env) :: starEach [] X.env := by rfl) (hs2 : starEach [.Call (.Name "set" p2) [e] [] q] X.env = (false, eval (.Call (.Name "set" p2) [e] [] q) X.env) :: starEach [] X.env := by rfl) :
    ME X W (.Call (.Name "sorted" p) [.Call (.Name "set" p2) [e] [] q] [] pos) (cSSet c) := by
  have inner := pe_callTy (p := p2) (pos := q) (cr_setI (X := X) hc) hg2 hm2 PyProof.Rows.boot_set (pa_cons he.pe pa_nil hs) (by decide) (by decide) hs (by rfl)
  refine ⟨(pe_callB (p := p) (pos := pos) (cr_sortedSet (X := X) hc) hg hm (by decide +kernel) (pa_cons inner pa_nil hs2) (by decide) (by decide) hs2 (by rfl)).imp fun σ H Q h => ?_⟩
  obtain ⟨ρ, φ, S, hE, hs, h⟩ := h
  show rdE X W c σ H _
  refine ⟨ρ, φ, S, hE, hs, Ok.step h fun d S1 φ1 H1 v qq l s r z => ?_⟩
  cases q1 : d.items S1 with
  | none => simp only [q1] at z; exact z.elim
  | some xs =>
    simp only [q1] at z
    cases q2 : toInts xs with
    | none => simp only [q2] at z; exact z.elim
    | some ns =>
      simp only [q2] at z
      by_cases hz : ns.length < 64
      · rw [if_pos hz] at z
        obtain ⟨a, ws, rfl, h1, h2⟩ := rel_items s r q1
        rw [toInts_eq q2] at h2
        rw [RelL.ints_inv h2] at h1
        refine ⟨a, ns, rfl, h1, by omega, fun p1 n hp hn => ⟨p1, _, n, rfl, upd_same, by omega, fun ks p3 sr mm hl hp3 => ?_⟩⟩
        rw [sortU_uniq sr fun z => (mm z).trans decide_eq_true_iff]
        refine new_ints (s.laid hp) hp3 (by have := sortU_len ns; omega) (Ok.later (Le.fresh hp) z)
      · rw [if_neg hz] at z; exact z.elim
end
end MP

/-! MP: how the newest meanings are reckoned. -/
namespace MP
open PySem PySem.Spec PyProof.Rows L2
section
variable (S : Sto) (ρ : Ro)
@[simp] theorem cSetd_eq (o k e : C) : cSetd o k e ρ S = (o ρ S).bind fun x S => match x with
  | .ref l n => match look S l n with
    | some (.box (.dK _) _) => (k ρ S).bind fun y S => (e ρ S).bind fun z S => match look S l n with
      | some (.box (.dK ks) ds) => match y.key with
        | some κ => match getA ks ds κ with
          | some d => if ks.length < 16000000 then .ok d S else .bad
          | none => if ks.length < 16000000 ∧ D.les l (putA ks ds κ z) = true then .ok z (put S l n (.box (.dK (putKs ks κ)) (putA ks ds κ z))) else .bad
        | none => .bad
      | _ => .bad
    | _ => .bad
  | _ => .bad := (rfl)
@[simp] theorem cSSet_eq (c : C) : cSSet c ρ S = (c ρ S).bind fun d S => match d.items S with
  | some xs => match toInts xs with
    | some ns => if ns.length < 64 then .ok (.lst ((sortU ns).map D.int)) S else .bad
    | none => .bad
  | none => .bad := (rfl)
@[simp] theorem cTidx_eq (ys : List D) (a : CA) : cTidx ys a ρ S = (a ρ S).bind fun ds S => match ds with
  | [.str z] => match strsO ys with
    | some zs => match idxS z zs 0 with
      | some j => .ok (.int (j : Int)) S
      | none => .bad
    | none => .bad
  | _ => .bad := (rfl)
@[simp] theorem ciTab_eq (t : List (Str × D)) : ciTab t ρ S = .ok (t.map fun p => D.str p.1) S := (rfl)
@[simp] theorem cDispN_eq (k : Nat) (l : List (C × C)) : cDispN k l ρ S = (dpL l ρ S).bind fun ps S => match mkD ps [] [] with
  | some (ks, ds) => match newAt k S (.box (.dK ks) ds) with
    | some (l, i, S') => if D.les l ds = true then .ok (.ref l i) S' else .bad
    | none => .bad
  | none => .bad := (rfl)
@[simp] theorem cEmptyK_eq (k : Nat) : cEmptyK k ρ S = match newAt k S (.box (.dK []) []) with
  | some (l, i, S') => .ok (.ref l i) S'
  | none => .bad := (rfl)
@[simp] theorem cEmpty_eq : cEmpty ρ S = .ok (.box (.dK []) []) S := (rfl)
@[simp] theorem cTin_eq' (t : List (Str × D)) (c : C) : cTin t c ρ S = (c ρ S).bind fun d S => match d with
  | .str x => .ok (.bl (tabGet t x).isSome) S
  | _ => .bad := (rfl)
@[simp] theorem cTnotIn_eq' (t : List (Str × D)) (c : C) : cTnotIn t c ρ S = (c ρ S).bind fun d S => match d with
  | .str x => .ok (.bl (!(tabGet t x).isSome)) S
  | _ => .bad := (rfl)
@[simp] theorem cFmt_eq (c : C) : cFmt c ρ S = (c ρ S).bind fun d S => match d with
  | .str y => if y.length ≤ 16000000 then .ok (.str y) S else .bad
  | .int i => if i.natAbs.log2 < 1920 then .ok (.str (toString i)) S else .bad
  | _ => .bad := (rfl)
@[simp] theorem cJs_eq (cs : List C) : cJs cs ρ S = (jsL cs Str.empty ρ S).bind fun out S => .ok (.str out) S := (rfl)
@[simp] theorem jsL_nil (acc : Str) : jsL [] acc ρ S = .ok acc S := (rfl)
@[simp] theorem jsL_cons (c : C) (cs : List C) (acc : Str) : jsL (c :: cs) acc ρ S = (c ρ S).bind fun d S => match d with
    | .str y => if (acc ++ y).length ≤ 16000000 then jsL cs (acc ++ y) ρ S else .bad
    | _ => .bad := (rfl)
@[simp] theorem gIsB_b (a b : Bool) : gIsB (.bl a) (.bl b) S = .ok (.bl (decide (a = b))) S := (rfl)
@[simp] theorem gNotB_b (a b : Bool) : gNotB (.bl a) (.bl b) S = .ok (.bl (!decide (a = b))) S := (rfl)
end
@[simp] theorem empty_tx : Str.empty = tx [] := rfl
theorem split_tx (a : List Nat) (c : Nat) (h : c < 256) : Txt.split (tx a) (tx [c]) = (TL.spl [c] 0 [] a).map tx := SX.split_S (by simp) (by simp [h])
theorem gSplit_tx (a : List Nat) (c : Nat) (S : Sto) (h : c < 256) (hl : a.length ≤ 16000000) : gSplit (.str (tx a)) [.str (tx [c])] S = .ok (.lst ((TL.spl [c] 0 [] a).map fun y => .str (tx y))) S := by
  have e : (tx [c]).length ≠ 0 ∧ (tx a).length ≤ 16000000 := ⟨by simp, by simpa using hl⟩
  show (if (tx [c]).length ≠ 0 ∧ (tx a).length ≤ 16000000 then R.ok (D.lst ((Txt.split (tx a) (tx [c])).map D.str)) S else .bad) = _
  rw [if_pos e, split_tx a c h, List.map_map]
  rfl
theorem gSortL_l {S : Sto} {ns : List Int} (h : ns.length ≤ 16000000) : gSortL [.lst (ns.map D.int)] S = .ok (.lst ((sortI ns).map D.int)) S := by
  unfold gSortL
  simp [D.isT, D.items, toInts_map, h]
@[simp] theorem gSorted_lst (S : Sto) (xs : List D) : gSorted [.lst xs] S = gSortL [.lst xs] S := (rfl)
@[simp] theorem gSorted_box (S : Sto) (ks : List Key) (xs : List D) : gSorted [.box (.dK ks) xs] S = match inlO ks with
      | some is => if is.length < 64 then .ok (.lst ((sortI is).map D.int)) S else .bad
      | none => .bad := (rfl)
/-! ### whole numbers, their bits -/
theorem bitAnd_nat (n m : Nat) : Builtin.bitAnd (n : Int) (m : Int) = ((n &&& m : Nat) : Int) := rfl
theorem bitOr_nat (n m : Nat) : Builtin.bitOr (n : Int) (m : Int) = ((n ||| m : Nat) : Int) := bitOr_nn (by omega) (by omega)
/-- parts laid side by side -/
theorem or_parts {q r k : Nat} (h : r < 2 ^ k) : Builtin.bitOr ((q : Int) * 2 ^ k) (r : Int) = ((q * 2 ^ k + r : Nat) : Int) := by
  rw [or_low (by omega) (by omega) (by have : (r : Int) < ((2 ^ k : Nat) : Int) := by omega
                                       simpa using this)]
  simp
theorem and_mask (n k : Nat) : n &&& (2 ^ k - 1) = n % 2 ^ k := Nat.and_two_pow_sub_one_eq_mod n k
theorem mask_all (x : Int) (k : Nat) : Builtin.bitAnd x (2 ^ k - 1) = x % 2 ^ k := by
  by_cases hx : 0 ≤ x
  · exact Bits.bitAnd_mask k hx
  · have hp : (0 : Int) < 2 ^ k := Int.pow_pos (by decide)
    rw [PyProof.Rows.bitAnd_np hx (by omega)]
    have e : ((2 : Int) ^ k - 1).toNat = 2 ^ k - 1 := by
      have : ((2 : Int) ^ k) = ((2 ^ k : Nat) : Int) := by simp
      omega
    rw [e, Nat.and_comm, Nat.and_two_pow_sub_one_eq_mod]
    have e2 : Builtin.bitNot x = -x - 1 := by unfold Builtin.bitNot; omega
    rw [e2]
    have e3 : (((-x - 1).toNat % 2 ^ k : Nat) : Int) = (-x - 1) % 2 ^ k := by
      rw [Int.natCast_emod]
      congr 1
      · omega
    rw [e3]
    have h1 := Int.emod_add_mul_ediv (-x - 1) (2 ^ k)
    have h2 := Int.emod_nonneg (-x - 1) (b := 2 ^ k) (by omega)
    have h3 := Int.emod_lt_of_pos (-x - 1) hp
    generalize (-x - 1) % 2 ^ k = r at *
    generalize (-x - 1) / 2 ^ k = q at *
    have : x = (2 ^ k - 1 - r) + 2 ^ k * (-1 - q) := by
      rw [Int.mul_sub]; omega
    rw [this, Int.add_mul_emod_self_left, Int.emod_eq_of_lt (by omega) (by omega)]
@[simp] theorem mask1 (x : Int) : Builtin.bitAnd x 1 = x % 2 := mask_all x 1
@[simp] theorem mask3 (x : Int) : Builtin.bitAnd x 3 = x % 4 := mask_all x 2
@[simp] theorem mask255 (x : Int) : Builtin.bitAnd x 255 = x % 256 := mask_all x 8
@[simp] theorem mask4095 (x : Int) : Builtin.bitAnd x 4095 = x % 4096 := mask_all x 12
/-! ### an own exception leaves -/
theorem leaveX_flat {n : Nat} {c a b : Str} {z : Str} {d : D} (r : List O) (S : Sto) (hn : n ≤ 40) (h : D.flat n d = true) : leaveX ⟨c, [(a, .str z), (b, d)]⟩ (r :: S) = .err ⟨c, [(a, .str z), (b, d)]⟩ S := by
  have e := fz_flat r S.length hn h
  have e2 : D.fz r S.length 40 (.str z) = some (.str z) := rfl
  simp only [leaveX, fzF, e, e2]
  try rfl
/-! ### one turn of a for -/
section
variable {t : Tg} {b : CS} {d : D} {ds : List D} {ρ ρ1 ρ2 : Ro} {S S2 : Sto}
theorem forL_nx (h : t d ρ = some ρ1) (e : b ρ1 S = .nx ρ2 S2) : forL t b (d :: ds) ρ S = forL t b ds ρ2 S2 := by rw [forL_cons]; simp [tgR, h, e]
theorem forL_cnt (h : t d ρ = some ρ1) (e : b ρ1 S = .cnt ρ2 S2) : forL t b (d :: ds) ρ S = forL t b ds ρ2 S2 := by rw [forL_cons]; simp [tgR, h, e]
theorem forL_err {x : Exn} (h : t d ρ = some ρ1) (e : b ρ1 S = .err x ρ2 S2) : forL t b (d :: ds) ρ S = .err x ρ2 S2 := by rw [forL_cons]; simp [tgR, h, e]
theorem forL_ret {v : D} (h : t d ρ = some ρ1) (e : b ρ1 S = .ret v S2) : forL t b (d :: ds) ρ S = .ret v S2 := by rw [forL_cons]; simp [tgR, h, e]
end
/-! ### a def's way out -/
def outF : RSt → R D
  | .nx _ S' => leave .non S'
  | .ret d S' => leave d S'
  | .err x _ S' => leaveX x S'
  | _ => .bad
theorem runF_out (n : Nat) (body : CS) (args : List D) (S : Sto) : runF n body args S = outF (body (args.map some ++ List.replicate (n - args.length) none) ([] :: S)) := (rfl)
@[simp] theorem outF_ret (d : D) (S : Sto) : outF (.ret d S) = leave d S := (rfl)
@[simp] theorem outF_nx (ρ : Ro) (S : Sto) : outF (.nx ρ S) = leave .non S := (rfl)
@[simp] theorem outF_err (x : Exn) (ρ : Ro) (S : Sto) : outF (.err x ρ S) = leaveX x S := (rfl)
/-! ### a thing is equal to itself -/
mutual
/-- flat, and its texts can be laid -/
def D.lay : Nat → D → Bool
  | 0, _ => false
  | n + 1, d => match d with
    | .non => true
    | .bl _ => true
    | .int _ => true
    | .str x => PySem.PyData.canLay0 (.str x)
    | .tup xs => D.lays n xs
    | .lst xs => D.lays n xs
    | _ => false
def D.lays : Nat → List D → Bool
  | _, [] => true
  | n, x :: xs => D.lay n x && D.lays n xs
end
theorem lay_shaped : ∀ (n : Nat) (d : D), D.lay n d = true → d.toP.canLay0 = true ∧ d.toP.depth ≤ n
  | 0, d, h => by simp [D.lay] at h
  | n + 1, d, h => by
    have go : ∀ xs : List D, D.lays n xs = true → PyData.canLayAll0 (D.toPs xs) = true ∧ PyData.depthAll (D.toPs xs) ≤ n := by
      intro xs
      induction xs with
      | nil => intro _; exact ⟨rfl, Nat.zero_le _⟩
      | cons x xs ih =>
        intro hx
        simp only [D.lays, Bool.and_eq_true] at hx
        obtain ⟨a, b⟩ := lay_shaped n x hx.1
        obtain ⟨c, e⟩ := ih hx.2
        refine ⟨by simp [D.toPs, PyData.canLayAll0, a, c], ?_⟩
        simp only [D.toPs, PyData.depthAll]
        omega
    cases d with
    | non => exact ⟨rfl, by simp [D.toP, PyData.depth]⟩
    | bl b => exact ⟨rfl, by simp [D.toP, PyData.depth]⟩
    | int i => exact ⟨rfl, by simp [D.toP, PyData.depth]⟩
    | str x => exact ⟨h, by simp [D.toP, PyData.depth]⟩
    | tup xs =>
      obtain ⟨a, b⟩ := go xs (by simpa [D.lay] using h)
      exact ⟨by simpa [D.toP, PyData.canLay0] using a, by simp [D.toP, PyData.depth]; omega⟩
    | lst xs =>
      obtain ⟨a, b⟩ := go xs (by simpa [D.lay] using h)
      exact ⟨by simpa [D.toP, PyData.canLay0] using a, by simp [D.toP, PyData.depth]; omega⟩
    | ty m => simp [D.lay] at h
    | ref l m => simp [D.lay] at h
    | rol xs => simp [D.lay] at h
    | box b xs => simp [D.lay] at h
theorem shaped_lay {n : Nat} {d : D} (h : D.lay n d = true) (hn : n ≤ 64) : SeqAt.shaped d.toP = true := by
  obtain ⟨a, b⟩ := lay_shaped n d h
  unfold SeqAt.shaped
  rw [a, Bool.true_and, decide_eq_true_eq]
  omega
theorem gEq_self {n : Nat} {d : D} (h : D.lay n d = true) (hn : n ≤ 64) (S : Sto) : gEq d d S = .ok (.bl true) S := by
  have s := shaped_lay h hn
  have e := PySem.SeqAt.eqv_refl d.toP (lay_shaped n d h).1
  cases d <;> first | (simp [gEq, s, e]; done) | skip
theorem gNe_self {n : Nat} {d : D} (h : D.lay n d = true) (hn : n ≤ 64) (S : Sto) : gNe d d S = .ok (.bl false) S := by
  have s := shaped_lay h hn
  have e := PySem.SeqAt.eqv_refl d.toP (lay_shaped n d h).1
  cases d <;> first | (simp [gNe, s, e]; done) | skip
theorem lay_noRef {n : Nat} {d : D} (h : D.lay n d = true) : d.isRef = false := by
  cases n with
  | zero => simp [D.lay] at h
  | succ n => cases d <;> first | rfl | (simp [D.lay] at h)
theorem gEqA_self {n : Nat} {d : D} (h : D.lay n d = true) (hn : n ≤ 64) (S : Sto) : gEqA d d S = .ok (.bl true) S := by
  rw [gEqA_of S d d (lay_noRef h) (lay_noRef h), gEq_self h hn]
theorem gNeA_self {n : Nat} {d : D} (h : D.lay n d = true) (hn : n ≤ 64) (S : Sto) : gNeA d d S = .ok (.bl false) S := by
  rw [gNeA_of S d d (lay_noRef h) (lay_noRef h), gNe_self h hn]
/-! ### a number in a row of numbers -/
theorem among_ints (i : Int) : ∀ ns : List Int, D.among (.int i) (ns.map D.int) = ns.any fun z => decide (z = i)
  | [] => rfl
  | z :: zs => by
    have ih := among_ints i zs
    unfold D.among at ih ⊢
    rw [List.map_cons, List.any_cons, List.any_cons, ih]
    congr 1
theorem flat1_ints (ns : List Int) : (ns.map D.int).all D.flat1 = true := by
  rw [List.all_map]
  exact List.all_eq_true.mpr fun _ _ => rfl
@[simp] theorem gIn_ti {i : Int} {xs : List D} (S : Sto) (h : (toInts xs).isSome = true) : gIn (.int i) (.tup xs) S = .ok (.bl (((toInts xs).getD []).any fun z => decide (z = i))) S := by
  obtain ⟨ns, q⟩ := Option.isSome_iff_exists.mp h
  have e := toInts_eq q
  rw [q, Option.getD_some, e]
  unfold gIn
  rw [show (D.tup (ns.map D.int)).top S = .tup (ns.map D.int) from rfl]
  have : inB (.int i) (.tup (ns.map D.int)) = some (ns.any fun z => decide (z = i)) := by
    rw [← among_ints]
    have f := flat1_ints ns
    generalize ns.map D.int = ys at f
    simp [inB, f, D.flat1]
  rw [this]
@[simp] theorem toInts_nil : toInts [] = some [] := (rfl)
@[simp] theorem toInts_cons (i : Int) (ds : List D) : toInts (.int i :: ds) = match toInts ds with
    | some ys => some (i :: ys)
    | none => none := by
  cases h : toInts ds <;> simp [toInts, h]
/-! ### texts joined -/
theorem strsO_tx : ∀ ys : List (List Nat), strsO (ys.map fun y => D.str (tx y)) = some (ys.map tx)
  | [] => rfl
  | y :: ys => by rw [List.map_cons, strsO_cons, strsO_tx ys]; rfl
theorem gJoin_tx (g : List Nat) (ys : List (List Nat)) (S : Sto) (h : (ys.map List.length).sum + ys.length * g.length ≤ 16777216) : gJoin (.str (tx g)) [.lst (ys.map fun y => D.str (tx y))] S = .ok (.str (tx (TL.joinL g ys))) S := by
  have e : ((ys.map tx).map (·.length)).sum + (ys.map tx).length * (tx g).length ≤ 16777216 := by
    rw [tx_len, List.length_map]
    have : (ys.map tx).map (·.length) = ys.map List.length := SX.lens ys
    rw [this]; exact h
  have e1 : (D.lst (ys.map fun y => D.str (tx y))).items S = some (ys.map fun y => D.str (tx y)) := rfl
  unfold gJoin
  simp only [e1, strsO_tx]
  rw [if_pos e, join_tx]
theorem joinL_nil : ∀ ys : List (List Nat), TL.joinL [] ys = ys.flatten
  | [] => rfl
  | [y] => by simp [TL.joinL]
  | y :: z :: ys => by
    have := joinL_nil (z :: ys)
    rw [TL.joinL, this]; simp
/-! ### a text in a list of texts -/
theorem inB_lstrs {w : Str} {xs : List D} (h : (strsO xs).isSome = true) : inB (.str w) (.lst xs) = some (((strsO xs).getD []).any fun z => decide (z = w)) := by
  obtain ⟨zs, q⟩ := Option.isSome_iff_exists.mp h
  have e := strsO_map q
  rw [q, Option.getD_some, ← among_strs, ← e]
  have f : xs.all D.flat1 = true := by
    rw [e, List.all_map]
    exact List.all_eq_true.mpr fun _ _ => rfl
  simp [inB, f, D.flat1]
@[simp] theorem gIn_ls {w : Str} {xs : List D} (S : Sto) (h : (strsO xs).isSome = true) : gIn (.str w) (.lst xs) S = .ok (.bl (((strsO xs).getD []).any fun z => decide (z = w))) S := by
  unfold gIn
  rw [show (D.lst xs).top S = .lst xs from rfl, inB_lstrs h]
@[simp] theorem gNotIn_ls {w : Str} {xs : List D} (S : Sto) (h : (strsO xs).isSome = true) : gNotIn (.str w) (.lst xs) S = .ok (.bl (!(((strsO xs).getD []).any fun z => decide (z = w)))) S := by
  unfold gNotIn
  rw [show (D.lst xs).top S = .lst xs from rfl, inB_lstrs h]
/-! ### a comprehension over a text -/
theorem lc_signs (i : Nat) (e : C) (ρ : Ro) (S : Sto) (f : Nat → D) : ∀ (w : List Nat), (∀ c ∈ w, e (ρ.set i (some (.str (tx [c])))) S = .ok (f c) S) → lcL (tgN i) ctYes e ρ (w.map fun c => D.str (tx [c])) S = .ok (w.map f) S
  | [], _ => rfl
  | c :: w, h => by
    have ih := lc_signs i e ρ S f w fun d hd => h d (List.mem_cons_of_mem _ hd)
    rw [List.map_cons, lcL_cons]
    simp [h c List.mem_cons_self, ih]
theorem all_bls (f : Nat → Bool) (w : List Nat) (S : Sto) : gAll [.lst (w.map fun c => D.bl (f c))] S = .ok (.bl (w.all f)) S := by
  have e : (w.map fun c => D.bl (f c)) = (w.map f).map D.bl := by simp
  rw [e, gAll_l S ((w.map f).map D.bl) (toBls_map _)]
  simp [List.all_map, Function.comp_def]
end MP

set_option autoImplicit true
/-! tuples in order, texts repeated, dicts compared whatever their order -/
namespace MP
open PySem PySem.Spec PyProof.Rows L2
theorem toInts_eq2 : ∀ {ds : List D} {ns : List Int}, toInts ds = some ns → ds = ns.map D.int := fun h => toInts_eq h
def gLtT : G2 := fun x y S => match x, y with
  | .tup xs, .tup ys => match toInts xs, toInts ys with
    | some ns, some ms => .ok (.bl (HT.lexLt ns ms)) S
    | _, _ => .bad
  | _, _ => .bad
def D.isTup : D → Bool
  | .tup _ => true
  | _ => false
def gLtX : G2 := fun x y S => if x.isTup then gLtT x y S else gLtA x y S
def gRepS : G2 := fun x y S => match x, y with
  | .str z, .int k => if 1 ≤ k ∧ k ≤ 100000 ∧ z.length ≤ 100 then .ok (.str (Txt.mul z k)) S else .bad
  | _, _ => .bad
def gMulX : G2 := fun x y S => if x.isStr then gRepS x y S else gMul x y S
def sameF : D → D → Bool
  | .non, .non => true
  | .bl a, .bl b => decide (a = b)
  | .int a, .int b => decide (a = b)
  | .str a, .str b => decide (a = b)
  | _, _ => false
def eqDk (ls : List Key) (ys : List D) : List Key → List D → Bool
  | [], [] => true
  | k :: ks, d :: ds => (match getA ls ys k with | some e => sameF d e | none => false) && eqDk ls ys ks ds
  | _, _ => false
def gNeD : G2 := fun x y S => match x.dict S, y.dict S with
  | some (ks, xs), some (ls, ys) => if ks.length = ls.length ∧ eqDk ls ys ks xs = true then .ok (.bl false) S else .bad
  | _, _ => .bad
def gNeX : G2 := fun x y S => match x.dict S with
  | some _ => gNeD x y S
  | none => gNeA x y S
section
variable {X : Cx}
theorem os_ltT (hu : X.A.units + 64 < cLine) : OS X (compareOp .Lt) gLtT := by
  refine ⟨_, op_ltT (by omega), fun W σ φ H S x y vx vy Q s rx ry z => ?_⟩
  cases rx <;> try exact z.elim
  rename_i a vs xs z1 h1 r1
  cases ry <;> try exact z.elim
  rename_i b ws ys z2 h2 r2
  unfold gLtT at z
  cases e1 : toInts xs with
  | none => simp only [e1] at z; exact z.elim
  | some ns =>
    cases e2 : toInts ys with
    | none => simp only [e1, e2] at z; exact z.elim
    | some ms =>
      simp only [e1, e2] at z
      obtain rfl := toInts_eq e1
      obtain rfl := toInts_eq e2
      obtain rfl := RelL.ints_inv r1
      obtain rfl := RelL.ints_inv r2
      exact ⟨a, b, ns, ms, rfl, rfl, h1.sq, h2.sq, z φ H _ (Le.refl _ _) s (.bl _)⟩
theorem os_ltX (hu : X.A.units + 64 < cLine) : OS X (compareOp .Lt) gLtX := OS.or (os_ltT hu) os_ltA fun x y S => by
  unfold gLtX
  by_cases h : x.isTup = true
  · exact .inl (if_pos h)
  · exact .inr (if_neg h)
theorem rep_list {α : Type} (c : Array α) : ∀ (n : Nat) (acc : Array α), ((List.replicate n c).foldl (· ++ ·) acc).toList = acc.toList ++ (List.replicate n c.toList).flatten
  | 0, acc => by simp
  | n + 1, acc => by
    rw [List.replicate_succ, List.foldl_cons, rep_list c n, List.replicate_succ, List.flatten_cons, Array.toList_append, List.append_assoc]
theorem rep_len (c : Array Nat) (n : Nat) : Str.length ⟨(List.replicate n c).foldl (· ++ ·) #[]⟩ = n * c.size := by
  show Array.size _ = _
  rw [← Array.length_toList, rep_list, List.length_append, flat_len]
  simp
def rRepS : R2 := fun x y H Q => ∃ z k, x = .str z ∧ y = .int k ∧ (1 ≤ k ∧ k ≤ 100000 ∧ z.length ≤ 100) ∧ Q (.str (Txt.mul z k)) H
theorem op_repS : OpR X (binaryOp .Mult) rRepS := by
  intro pins s σ H x y v u Q I rx ry h
  obtain ⟨z, k, rfl, rfl, ⟨h1, h2, h3⟩, q⟩ := h
  obtain ⟨t, rfl⟩ := rx
  obtain ⟨t', rfl⟩ := ry
  have hk : ¬ k < 1 := by omega
  refine PySem.P.mul_str ?_ ?_ ?_ ?_
  · have a1 : ¬ k < -(2 ^ 63 : Int) := by omega
    have a2 : ¬ k ≥ 2 ^ 63 := by omega
    rw [decide_eq_false a1, decide_eq_false a2]; rfl
  · intro _ _ e
    have e2 : (2 ^ 63 - 1 : Int) / k < (z.length : Int) := e
    have : (z.length : Int) * k ≤ 100 * 100000 := Int.mul_le_mul (by omega) h2 (by omega) (by decide)
    have := (Int.le_ediv_iff_mul_le (by omega : 0 < k)).mpr (show (z.length : Int) * k ≤ 2 ^ 63 - 1 by omega)
    omega
  · intro _ _
    have : z.length * k.toNat ≤ 100 * 100000 := Nat.mul_le_mul h3 (by omega)
    exact PyProof.Rows.short24 (by omega)
  · rw [if_neg hk]
    unfold Txt.mul at q
    rw [if_neg hk] at q
    split
    · rename_i e
      rw [if_pos e] at q
      exact ⟨.str z, H, I, ⟨_, rfl⟩, q⟩
    · rename_i e
      rw [if_neg e] at q
      exact ⟨line_ge (by rw [rep_len]; exact Nat.le_trans (Nat.mul_le_mul (show k.toNat ≤ 100000 by omega) h3) (by decide)), .str _, H, I.tok _, ⟨_, rfl⟩, q⟩
theorem os_repS : OS X (binaryOp .Mult) gRepS := by
  refine ⟨_, op_repS, fun W σ φ H S x y vx vy Q s rx ry z => ?_⟩
  cases rx <;> try exact z.elim
  rename_i x
  cases ry <;> try exact z.elim
  rename_i k
  unfold gRepS at z
  by_cases h : 1 ≤ k ∧ k ≤ 100000 ∧ x.length ≤ 100
  · simp only [h, and_self, if_true] at z
    exact ⟨x, k, rfl, rfl, h, z φ H _ (Le.refl _ _) s (.str _)⟩
  · simp only [h, if_false] at z
    exact z.elim
theorem os_mulX : OS X (binaryOp .Mult) gMulX := OS.or os_repS os_mul fun x y S => by
  unfold gMulX
  by_cases h : x.isStr = true
  · exact .inl (if_pos h)
  · exact .inr (if_neg h)
theorem same_rel {K : PySem.W.Frag} {φ : Phi} {H : Hp} {d e : D} {v w : V} (r : Rel K φ H d v) (q : Rel K φ H e w) (h : sameF d e = true) : v = w ∧ flatB v = true := by
  cases d <;> cases e <;> simp [sameF] at h <;> cases r <;> cases q <;> first | exact ⟨rfl, rfl⟩ | (subst h; exact ⟨rfl, rfl⟩)
theorem eqDk_rel {K : PySem.W.Frag} {φ : Phi} {H : Hp} {ls : List Key} {ys : List D} {ws : List V} (hl : ls.length = ws.length) (ry : RelL K φ H ys ws) : ∀ {ks : List Key} {ds : List D} {vs : List V}, RelL K φ H ds vs → eqDk ls ys ks ds = true → ∀ p ∈ ks.zip vs, valV (ls.zip ws) p.1 = some p.2 ∧ flatB p.2 = true
  | [], _, _, _, _, p, hp => by simp at hp
  | k :: ks, _, _, .nil, h, p, hp => by simp at hp
  | k :: ks, d :: ds, v :: vs, .cons r rs, h, p, hp => by
    rw [eqDk, Bool.and_eq_true] at h
    rw [List.zip_cons_cons] at hp
    rcases List.mem_cons.mp hp with rfl | hp
    · cases q : getA ls ys k with
      | none => rw [q] at h; exact absurd h.1 (by simp)
      | some e =>
        rw [q] at h
        obtain ⟨w, e1, e2⟩ := getA_some ry q
        obtain ⟨e3, e4⟩ := same_rel r e2 h.1
        exact ⟨by rw [valV_zip hl, e1, e3], e4⟩
    · exact eqDk_rel hl ry rs h.2 p hp
theorem os_neD (hu : X.A.units + 64 < cLine) : OS X (compareOp .NotEq) gNeD := by
  refine ⟨_, op_ne_dictA (by omega), fun W σ φ H S x y vx vy Q s rx ry z => ?_⟩
  unfold gNeD at z
  cases q1 : x.dict S with
  | none => simp only [q1] at z; exact z.elim
  | some p =>
    cases q2 : y.dict S with
    | none => simp only [q1, q2] at z; exact z.elim
    | some q =>
      obtain ⟨ks, xs⟩ := p
      obtain ⟨ls, ys⟩ := q
      simp only [q1, q2] at z
      by_cases h : ks.length = ls.length ∧ eqDk ls ys ks xs = true
      · simp only [h, and_self, if_true] at z
        obtain ⟨a, vs, rfl, a2, a3, a4⟩ := rel_dict s rx q1
        obtain ⟨b, ws, rfl, b2, b3, b4⟩ := rel_dict s ry q2
        refine ⟨a, b, _, _, rfl, rfl, a2, b2, ?_, eqDk_rel b3 b4 a4 h.2, z φ H _ (Le.refl _ _) s (.bl _)⟩
        rw [List.length_zip, List.length_zip, ← a3, ← b3, h.1]
      · simp only [h] at z
        exact z.elim
theorem mul_tx (a : List Nat) {k : Int} (h : 1 ≤ k) : Txt.mul (tx a) k = tx (List.replicate k.toNat a).flatten := by
  unfold Txt.mul
  rw [if_neg (by omega)]
  split
  · rename_i e
    simp only [Bool.or_eq_true, beq_iff_eq] at e
    rcases e with e | e
    · subst e; simp
    · have : a = [] := List.length_eq_zero_iff.mp e
      subst this
      have : (List.replicate k.toNat ([] : List Nat)).flatten = [] := by simp
      rw [this]
  · have := rep_list (tx a).cps k.toNat #[]
    show (⟨_⟩ : Str) = ⟨_⟩
    congr 1
    exact Array.ext' (by rw [this]; simp)
theorem os_neX (hu : X.A.units + 64 < cLine) : OS X (compareOp .NotEq) gNeX := OS.or (os_neD hu) (os_neA hu) fun x y S => by
  unfold gNeX
  cases x.dict S with
  | none => exact .inr rfl
  | some _ => exact .inl rfl
end
section
variable {S : Sto}
@[simp] theorem gLtX_i (i : Int) (y : D) : gLtX (.int i) y S = gLtA (.int i) y S := rfl
@[simp] theorem gLtX_s (z : Str) (y : D) : gLtX (.str z) y S = gLtA (.str z) y S := rfl
@[simp] theorem gLtX_b (b : Bool) (y : D) : gLtX (.bl b) y S = gLtA (.bl b) y S := rfl
@[simp] theorem gLtX_t2 (a b c d : Int) : gLtX (.tup [.int a, .int b]) (.tup [.int c, .int d]) S = .ok (.bl (if a = c then (if b = d then false else decide (b < d)) else decide (a < c))) S := by
  show R.ok (D.bl (HT.lexLt [a, b] [c, d])) S = _
  rw [HT.lexLt_cons, HT.lexLt_cons, HT.lexLt_nil_nil]
@[simp] theorem gMulX_i (i : Int) (y : D) : gMulX (.int i) y S = gMul (.int i) y S := rfl
@[simp] theorem gMulX_l (xs : List D) (y : D) : gMulX (.lst xs) y S = gMul (.lst xs) y S := rfl
@[simp] theorem gMulX_t (xs : List D) (y : D) : gMulX (.tup xs) y S = gMul (.tup xs) y S := rfl
@[simp] theorem gMulX_s (a : List Nat) (k : Int) : gMulX (.str (tx a)) (.int k) S = if 1 ≤ k ∧ k ≤ 100000 ∧ a.length ≤ 100 then .ok (.str (tx (List.replicate k.toNat a).flatten)) S else .bad := by
  show (if 1 ≤ k ∧ k ≤ 100000 ∧ (tx a).length ≤ 100 then R.ok (D.str (Txt.mul (tx a) k)) S else .bad) = _
  rw [tx_len]
  by_cases h : 1 ≤ k ∧ k ≤ 100000 ∧ a.length ≤ 100
  · rw [if_pos h, if_pos h, mul_tx a h.1]
  · rw [if_neg h, if_neg h]
theorem gNeX_of {x y : D} (h : x.dict S = none) : gNeX x y S = gNeA x y S := by unfold gNeX; rw [h]
@[simp] theorem gNeX_i (i : Int) (y : D) : gNeX (.int i) y S = gNeA (.int i) y S := rfl
@[simp] theorem gNeX_s (z : Str) (y : D) : gNeX (.str z) y S = gNeA (.str z) y S := rfl
@[simp] theorem gNeX_b (b : Bool) (y : D) : gNeX (.bl b) y S = gNeA (.bl b) y S := rfl
@[simp] theorem gNeX_n (y : D) : gNeX .non y S = gNeA .non y S := rfl
@[simp] theorem gNeX_t (xs : List D) (y : D) : gNeX (.tup xs) y S = gNeA (.tup xs) y S := rfl
@[simp] theorem gNeX_l (xs : List D) (y : D) : gNeX (.lst xs) y S = gNeA (.lst xs) y S := rfl
theorem gNeX_bb (ks ls : List Key) (xs ys : List D) : gNeX (.box (.dK ks) xs) (.box (.dK ls) ys) S = if ks.length = ls.length ∧ eqDk ls ys ks xs = true then .ok (.bl false) S else .bad := rfl
end
end MP

namespace K26
open MP PySem
def errs : List Str := ["GateError", "InvalidText", "InvalidCode"]
def subE : Str → Str → Bool := subTab [("GateError", ["GateError"]), ("InvalidText", ["InvalidText", "GateError"]), ("InvalidCode", ["InvalidCode", "GateError"])]
def k_ALU : D := (.tup [(.str "add"), (.str "sub"), (.str "and"), (.str "or"), (.str "xor"), (.str "less"), (.str "same")])
def k_FIGURES : D := (.str "0123456789")
def k_LETTERS : D := (.str "abcdefghijklmnopqrstuvwxyz")
def l_ALU : List D := [(.str "add"), (.str "sub"), (.str "and"), (.str "or"), (.str "xor"), (.str "less"), (.str "same")]
def t_FORMS : List (Str × D) := [("li", (.tup [(.int 1), (.str "dn")])), ("addi", (.tup [(.int 2), (.str "dsn")])), ("ld", (.tup [(.int 3), (.str "dsn")])), ("st", (.tup [(.int 4), (.str "dsn")])), ("bz", (.tup [(.int 5), (.str "dp")])), ("bn", (.tup [(.int 6), (.str "dp")])), ("jmp", (.tup [(.int 7), (.str "p")])), ("jal", (.tup [(.int 8), (.str "dp")])), ("jr", (.tup [(.int 9), (.str "s")])), ("show", (.tup [(.int 10), (.str "d")])), ("trap", (.tup [(.int 11), (.str "n")])), ("mfs", (.tup [(.int 12), (.str "dn")])), ("mts", (.tup [(.int 13), (.str "dn")])), ("back", (.tup [(.int 14), (.str "")]))]
/-- is_count(value): 0 value -/
def c_is_count : CS :=
  (cRet (cAnd (cCall gIsi (caCons (cV 0) (caCons (cK (.ty "int")) caNil))) (cAnd (cNot (cCall gIsi (caCons (cV 0) (caCons (cK (.ty "bool")) caNil)))) (cB gGeA (cV 0) (cK (.int 0))))))
def m_is_count : Sem' := runF 1 c_is_count
/-- instruction(op, rd, rs, imm): 0 op 1 rd 2 rs 3 imm 4 parts 5 limits 6 k -/
def c_instruction : CS :=
  (cSeq (cPar [4, 5] (caCons (cTup (caCons (cV 0) (caCons (cV 1) (caCons (cV 2) (caCons (cV 3) caNil))))) (caCons (cTup (caCons (cK (.int 16)) (caCons (cK (.int 4)) (caCons (cK (.int 4)) (caCons (cK (.int 256)) caNil))))) caNil)))
    (cSeq (cFor (ciR1 (caCons (cK (.int 4)) caNil)) (tgN 6) (cIfS (tOr (tNot (cT (cCall m_is_count (caCons (cB gItem (cV 4) (cV 6)) caNil)))) (cTB (cB gGeA (cB gItem (cV 4) (cV 6)) (cB gItem (cV 5) (cV 6))))) (cRaise "InvalidCode" (cV 6)) cNext))
    (cRet (cB gOr (cB gOr (cB gOr (cB gShl (cV 0) (cK (.int 12))) (cB gShl (cV 1) (cK (.int 10)))) (cB gShl (cV 2) (cK (.int 8)))) (cV 3)))))
def m_instruction : Sem' := runF 7 c_instruction
/-- is_instruction(value): 0 value -/
def c_is_instruction : CS :=
  (cRet (cAnd (cCall m_is_count (caCons (cV 0) caNil)) (cB gLtA (cV 0) (cB gShl (cK (.int 1)) (cK (.int 16))))))
def m_is_instruction : Sem' := runF 1 c_is_instruction
/-- check_instruction(number): 0 number -/
def c_check_instruction : CS :=
  (cIfS (tNot (cT (cCall m_is_instruction (caCons (cV 0) caNil)))) (cRaise "InvalidCode" (cK .non)) cNext)
def m_check_instruction : Sem' := runF 1 c_check_instruction
/-- parts_of(number): 0 number -/
def c_parts_of : CS :=
  (cSeq (cDrop (cCall m_check_instruction (caCons (cV 0) caNil)))
    (cRet (cTup (caCons (cB gShr (cV 0) (cK (.int 12))) (caCons (cB gAnd (cB gShr (cV 0) (cK (.int 10))) (cK (.int 3))) (caCons (cB gAnd (cB gShr (cV 0) (cK (.int 8))) (cK (.int 3))) (caCons (cB gAnd (cV 0) (cK (.int 255))) caNil)))))))
def m_parts_of : Sem' := runF 1 c_parts_of
/-- form_of(number): 0 number 1 op 2 rd 3 rs 4 imm 5 found 6 word 7 signs 8 spare -/
def c_form_of : CS :=
  (cSeq (cAsg (tgT [(tgN 1), (tgN 2), (tgN 3), (tgN 4)]) (cCall m_parts_of (caCons (cV 0) caNil)))
    (cSeq (cAsg (tgN 5) (cTup (caCons (cK (.str "word")) (caCons (cK (.str "w")) caNil))))
    (cSeq (cIfS (tAnd (cTB (cB gEqA (cV 1) (cK (.int 0)))) (cTB (cB gLtA (cV 4) (cCall gLenA (caCons (cK k_ALU) caNil))))) (cAsg (tgN 5) (cTup (caCons (cB gItem (cK k_ALU) (cV 4)) (caCons (cK (.str "ds")) caNil)))) cNext)
    (cSeq (cFor (ciTab t_FORMS) (tgN 6) (cIfS (cTB (cB gEqA (cB gItem (cTget t_FORMS (cV 6)) (cK (.int 0))) (cV 1))) (cAsg (tgN 5) (cTup (caCons (cV 6) (caCons (cB gItem (cTget t_FORMS (cV 6)) (cK (.int 1))) caNil)))) cNext))
    (cSeq (cAsg (tgN 7) (cB gItem (cV 5) (cK (.int 1))))
    (cSeq (cAsg (tgN 8) (cOr (cAnd (cB gGtA (cV 2) (cK (.int 0))) (cB gNotMem (cK (.str "d")) (cV 7))) (cAnd (cB gGtA (cV 3) (cK (.int 0))) (cB gNotMem (cK (.str "s")) (cV 7)))))
    (cSeq (cIfS (tAnd (cTB (cB gGtA (cV 1) (cK (.int 0)))) (tAnd (cTB (cB gGtA (cV 4) (cK (.int 0)))) (tAnd (cTB (cB gNotMem (cK (.str "n")) (cV 7))) (cTB (cB gNotMem (cK (.str "p")) (cV 7)))))) (cAsg (tgN 8) (cK (.bl true))) cNext)
    (cRet (cIf (cT (cV 8)) (cTup (caCons (cK (.str "word")) (caCons (cK (.str "w")) caNil))) (cV 5))))))))))
def m_form_of : Sem' := runF 9 c_form_of
/-- instruction_text(number): 0 number 1 op 2 rd 3 rs 4 imm 5 word 6 signs 7 told 8 sign -/
def c_instruction_text : CS :=
  (cSeq (cAsg (tgT [(tgN 1), (tgN 2), (tgN 3), (tgN 4)]) (cCall m_parts_of (caCons (cV 0) caNil)))
    (cSeq (cAsg (tgT [(tgN 5), (tgN 6)]) (cCall m_form_of (caCons (cV 0) caNil)))
    (cSeq (cAsg (tgN 7) (cDisp [((cK (.str "d")), (cJs [(cK (.str "r")), (cFmt (cV 2))])), ((cK (.str "s")), (cJs [(cK (.str "r")), (cFmt (cV 3))])), ((cK (.str "n")), (cCall gStrI (caCons (cV 4) caNil))), ((cK (.str "p")), (cCall gStrI (caCons (cV 4) caNil))), ((cK (.str "w")), (cCall gStrI (caCons (cV 0) caNil)))]))
    (cRet (cMeth "str" gJoin (cK (.str " ")) (caCons (cB gAddA (cLst (caCons (cV 5) caNil)) (cLc (ciIt (cV 6)) (tgN 8) ctYes (cB gItem (cV 7) (cV 8)) [8])) caNil))))))
def m_instruction_text : Sem' := runF 9 c_instruction_text
/-- is_label(value): 0 value 1 sign -/
def c_is_label : CS :=
  (cSeq (cIfS (tOr (tNot (cT (cCall gIsi (caCons (cV 0) (caCons (cK (.ty "str")) caNil))))) (tOr (tNot (cTB (cChain gLtA gLeA (cK (.int 0)) (cCall gLenA (caCons (cV 0) caNil)) (cK (.int 12))))) (cTB (cB gNotMem (cB gItem (cV 0) (cK (.int 0))) (cK k_LETTERS))))) (cRet (cK (.bl false))) cNext)
    (cRet (cCall gAll (caCons (cLc (ciIt (cV 0)) (tgN 1) ctYes (cOr (cB gMem (cV 1) (cK k_LETTERS)) (cB gMem (cV 1) (cK k_FIGURES))) [1]) caNil))))
def m_is_label : Sem' := runF 2 c_is_label
/-- code_rows(text): 0 text 1 rows 2 found 3 k 4 words 5 word -/
def c_code_rows : CS :=
  (cSeq (cPar [1, 2] (caCons (cMeth "str" gSplit (cV 0) (caCons (cK (.str "\n")) caNil)) (caCons (cNew 0 caNil) caNil)))
    (cSeq (cFor (ciR1 (caCons (cCall gLenA (caCons (cV 1) caNil)) caNil)) (tgN 3) (cSeq (cAsg (tgN 4) (cLc (ciIt (cMeth "str" gSplit (cB gItem (cMeth "str" gSplit (cB gItem (cV 1) (cV 3)) (caCons (cK (.str "#")) caNil)) (cK (.int 0))) (caCons (cK (.str " ")) caNil))) (tgN 5) (cTB (cB gNeA (cV 5) (cK (.str "")))) (cV 5) [5]))
    (cIfS (cTB (cB gGtA (cCall gLenA (caCons (cV 4) caNil)) (cK (.int 0)))) (cDrop (cApp (cV 2) (cTup (caCons (cV 3) (caCons (cV 4) caNil))))) cNext)))
    (cRet (cV 2))))
def m_code_rows : Sem' := runF 6 c_code_rows
/-- is_label_row(words): 0 words -/
def c_is_label_row : CS :=
  (cRet (cAnd (cB gEqA (cCall gLenA (caCons (cV 0) caNil)) (cK (.int 1))) (cAnd (cB gEqA (cSl (cB gItem (cV 0) (cK (.int 0))) (coS (cU gNeg (cK (.int 1)))) coN) (cK (.str ":"))) (cCall m_is_label (caCons (cSl (cB gItem (cV 0) (cK (.int 0))) coN (coS (cU gNeg (cK (.int 1))))) caNil)))))
def m_is_label_row : Sem' := runF 1 c_is_label_row
/-- number_below(word, limit): 0 word 1 limit 2 sign -/
def c_number_below : CS :=
  (cSeq (cIfS (tOr (tNot (cTB (cChain gLtA gLeA (cK (.int 0)) (cCall gLenA (caCons (cV 0) caNil)) (cK (.int 5))))) (tOr (tNot (cT (cCall gAll (caCons (cLc (ciIt (cV 0)) (tgN 2) ctYes (cB gMem (cV 2) (cK k_FIGURES)) [2]) caNil)))) (tAnd (cTB (cB gEqA (cB gItem (cV 0) (cK (.int 0))) (cK (.str "0")))) (cTB (cB gNeA (cV 0) (cK (.str "0"))))))) (cRet (cK .non)) cNext)
    (cRet (cIf (cTB (cB gLtA (cCall gIntA (caCons (cV 0) caNil)) (cV 1))) (cCall gIntA (caCons (cV 0) caNil)) (cK .non))))
def m_number_below : Sem' := runF 3 c_number_below
/-- part_told(word, sign, labels): 0 word 1 sign 2 labels -/
def c_part_told : CS :=
  (cSeq (cIfS (cTB (cB gMem (cV 1) (cTup (caCons (cK (.str "d")) (caCons (cK (.str "s")) caNil))))) (cRet (cIf (cTB (cB gEqA (cSl (cV 0) coN (coS (cK (.int 1)))) (cK (.str "r")))) (cCall m_number_below (caCons (cSl (cV 0) (coS (cK (.int 1))) coN) (caCons (cK (.int 4)) caNil))) (cK .non))) cNext)
    (cSeq (cIfS (tAnd (cTB (cB gEqA (cV 1) (cK (.str "p")))) (cTB (cB gMem (cV 0) (cV 2)))) (cRet (cIf (cTB (cB gLtA (cB gItem (cV 2) (cV 0)) (cK (.int 256)))) (cB gItem (cV 2) (cV 0)) (cK .non))) cNext)
    (cRet (cCall m_number_below (caCons (cV 0) (caCons (cIf (cTB (cB gEqA (cV 1) (cK (.str "w")))) (cB gShl (cK (.int 1)) (cK (.int 16))) (cK (.int 256))) caNil))))))
def m_part_told : Sem' := runF 3 c_part_told
/-- row_told(row, words, labels): 0 row 1 words 2 labels 3 op 4 signs 5 imm 6 told 7 k 8 part -/
def c_row_told : CS :=
  (cSeq (cIfS (cTB (cB gMem (cB gItem (cV 1) (cK (.int 0))) (cK k_ALU))) (cPar [3, 4, 5] (caCons (cK (.int 0)) (caCons (cK (.str "ds")) (caCons (cTidx l_ALU (caCons (cB gItem (cV 1) (cK (.int 0))) caNil)) caNil)))) (cIfS (cTB (cTin t_FORMS (cB gItem (cV 1) (cK (.int 0))))) (cPar [3, 4, 5] (caCons (cB gItem (cTget t_FORMS (cB gItem (cV 1) (cK (.int 0)))) (cK (.int 0))) (caCons (cB gItem (cTget t_FORMS (cB gItem (cV 1) (cK (.int 0)))) (cK (.int 1))) (caCons (cK (.int 0)) caNil)))) (cIfS (cTB (cB gEqA (cB gItem (cV 1) (cK (.int 0))) (cK (.str "word")))) (cAsg (tgT [(tgN 3), (tgN 4), (tgN 5)]) (cTup (caCons (cK (.int 0)) (caCons (cK (.str "w")) (caCons (cK (.int 0)) caNil))))) (cRaise "InvalidText" (cTup (caCons (cV 0) (caCons (cK (.int 0)) caNil)))))))
    (cSeq (cAsg (tgN 6) (cDispN 0 [((cK (.str "d")), (cK (.int 0))), ((cK (.str "s")), (cK (.int 0))), ((cK (.str "n")), (cV 5))]))
    (cSeq (cFor (ciR1 (caCons (cCall gLenA (caCons (cV 4) caNil)) caNil)) (tgN 7) (cSeq (cAsg (tgN 8) (cIf (cTB (cB gLtA (cB gAddA (cV 7) (cK (.int 1))) (cCall gLenA (caCons (cV 1) caNil)))) (cCall m_part_told (caCons (cB gItem (cV 1) (cB gAddA (cV 7) (cK (.int 1)))) (caCons (cB gItem (cV 4) (cV 7)) (caCons (cV 2) caNil)))) (cK .non)))
    (cSeq (cIfS (cTB (cB gIsN (cV 8) (cK .non))) (cRaise "InvalidText" (cTup (caCons (cV 0) (caCons (cB gAddA (cV 7) (cK (.int 1))) caNil)))) cNext)
    (cSetA (cV 6) (cIf (cTB (cB gEqA (cB gItem (cV 4) (cV 7)) (cK (.str "p")))) (cK (.str "n")) (cB gItem (cV 4) (cV 7))) (cV 8)))))
    (cSeq (cIfS (cTB (cB gGtA (cCall gLenA (caCons (cV 1) caNil)) (cB gAddA (cCall gLenA (caCons (cV 4) caNil)) (cK (.int 1))))) (cRaise "InvalidText" (cTup (caCons (cV 0) (caCons (cB gAddA (cCall gLenA (caCons (cV 4) caNil)) (cK (.int 1))) caNil)))) cNext)
    (cRet (cIf (cTB (cB gEqA (cV 4) (cK (.str "w")))) (cB gItem (cV 6) (cK (.str "w"))) (cCall m_instruction (caCons (cV 3) (caCons (cB gItem (cV 6) (cK (.str "d"))) (caCons (cB gItem (cV 6) (cK (.str "s"))) (caCons (cB gItem (cV 6) (cK (.str "n"))) caNil)))))))))))
def m_row_told : Sem' := runF 9 c_row_told
/-- code_labels(text): 0 text 1 found 2 place 3 row 4 words -/
def c_code_labels : CS :=
  (cSeq (cPar [1, 2] (caCons (cEmptyK 0) (caCons (cK (.int 0)) caNil)))
    (cSeq (cForA (cCall m_code_rows (caCons (cV 0) caNil)) (tgT [(tgN 3), (tgN 4)]) (cIfS (cT (cCall m_is_label_row (caCons (cV 4) caNil))) (cDrop (cSetd (cV 1) (cSl (cB gItem (cV 4) (cK (.int 0))) coN (coS (cU gNeg (cK (.int 1))))) (cV 2))) (cAug 2 gIAddA (cK (.int 1)))))
    (cRet (cV 1))))
def m_code_labels : Sem' := runF 5 c_code_labels
/-- read_code(text): 0 text 1 labels 2 met 3 found 4 row 5 words -/
def c_read_code : CS :=
  (cSeq (cPar [1, 2, 3] (caCons (cCall m_code_labels (caCons (cV 0) caNil)) (caCons (cEmptyK 0) (caCons (cNew 0 caNil) caNil))))
    (cSeq (cForA (cCall m_code_rows (caCons (cV 0) caNil)) (tgT [(tgN 4), (tgN 5)]) (cIfS (cT (cCall m_is_label_row (caCons (cV 5) caNil))) (cSeq (cIfS (tOr (cTB (cB gMem (cB gItem (cV 5) (cK (.int 0))) (cV 2))) (cTB (cB gGeA (cB gItem (cV 1) (cSl (cB gItem (cV 5) (cK (.int 0))) coN (coS (cU gNeg (cK (.int 1)))))) (cK (.int 256))))) (cRaise "InvalidText" (cTup (caCons (cV 4) (caCons (cK (.int 0)) caNil)))) cNext)
    (cSetA (cV 2) (cB gItem (cV 5) (cK (.int 0))) (cK (.bl true)))) (cSeq (cIfS (cTB (cB gEqA (cCall gLenA (caCons (cV 3) caNil)) (cK (.int 256)))) (cRaise "InvalidText" (cTup (caCons (cV 4) (caCons (cK (.int 0)) caNil)))) cNext)
    (cDrop (cApp (cV 3) (cCall m_row_told (caCons (cV 4) (caCons (cV 5) (caCons (cV 1) caNil)))))))))
    (cRet (cCall gTuple (caCons (cV 3) caNil)))))
def m_read_code : Sem' := runF 6 c_read_code
/-- _law_draw(state, script, size): 0 state 1 script 2 size 3 cell 4 mixed 5 digit -/
def c__law_draw : CS :=
  (cSeq (cIfS (cTB (cB gEqA (cB gItem (cV 0) (cK (.int 1))) (cK (.int 0)))) (cSeq (cAsg (tgN 3) (cK (.int 0)))
    (cSeq (cIfS (cTB (cB gGtA (cCall gLenA (caCons (cV 1) caNil)) (cK (.int 0)))) (cAsg (tgN 3) (cB gItem (cV 1) (cB gMod (cB gItem (cV 0) (cK (.int 0))) (cCall gLenA (caCons (cV 1) caNil))))) cNext)
    (cSeq (cIfS (cTB (cB gLtA (cV 3) (cK (.int 0)))) (cAsg (tgN 3) (cB gSub (cK (.int 1)) (cB gMul (cK (.int 2)) (cV 3)))) cNext)
    (cSeq (cAsg (tgN 4) (cB gMod (cCall gIntA (caCons (cB gMul (cB gAddA (cB gAddA (cV 3) (cB gMul (cB gItem (cV 0) (cK (.int 0))) (cK (.int 7919)))) (cK (.int 1))) (cK (.int 48271))) caNil)) (cK (.int 2147483647))))
    (cSeq (cSetA (cV 0) (cK (.int 1)) (cB gMod (cCall gIntA (caCons (cB gAddA (cB gMul (cV 4) (cK (.int 69621))) (cB gMul (cB gItem (cV 0) (cK (.int 0))) (cK (.int 104729)))) caNil)) (cK (.int 4294967291))))
    (cSeq (cIfS (tAnd (cTB (cB gGeA (cV 3) (cB gPow (cK (.int 10)) (cK (.int 18))))) (cTB (cB gLtA (cB gItem (cV 0) (cK (.int 0))) (cCall gLenA (caCons (cV 1) caNil))))) (cSetA (cV 0) (cK (.int 1)) (cV 3)) cNext)
    (cSetA (cV 0) (cK (.int 0)) (cB gAddA (cB gItem (cV 0) (cK (.int 0))) (cK (.int 1)))))))))) cNext)
    (cSeq (cAsg (tgN 5) (cB gMod (cCall gIntA (caCons (cB gItem (cV 0) (cK (.int 1))) caNil)) (cV 2)))
    (cSeq (cSetA (cV 0) (cK (.int 1)) (cB gFdiv (cB gItem (cV 0) (cK (.int 1))) (cV 2)))
    (cRet (cV 5)))))
def m__law_draw : Sem' := runF 6 c__law_draw
/-- _law_instr(state, script, most): 0 state 1 script 2 most 3 op 4 imm -/
def c__law_instr : CS :=
  (cSeq (cAsg (tgN 3) (cCall m__law_draw (caCons (cV 0) (caCons (cV 1) (caCons (cB gAddA (cV 2) (cK (.int 1))) caNil)))))
    (cSeq (cAsg (tgN 4) (cB gItem (cLst (caCons (cCall m__law_draw (caCons (cV 0) (caCons (cV 1) (caCons (cK (.int 8)) caNil)))) (caCons (cCall m__law_draw (caCons (cV 0) (caCons (cV 1) (caCons (cK (.int 8)) caNil)))) (caCons (cCall m__law_draw (caCons (cV 0) (caCons (cV 1) (caCons (cK (.int 256)) caNil)))) (caCons (cK (.int 255)) caNil))))) (cCall m__law_draw (caCons (cV 0) (caCons (cV 1) (caCons (cK (.int 4)) caNil))))))
    (cRet (cB gOr (cB gOr (cB gOr (cB gShl (cV 3) (cK (.int 12))) (cB gShl (cCall m__law_draw (caCons (cV 0) (caCons (cV 1) (caCons (cK (.int 4)) caNil)))) (cK (.int 10)))) (cB gShl (cCall m__law_draw (caCons (cV 0) (caCons (cV 1) (caCons (cK (.int 4)) caNil)))) (cK (.int 8)))) (cV 4)))))
def m__law_instr : Sem' := runF 5 c__law_instr
/-- _law_asked(text): 0 text 1 error -/
def c__law_asked : CS :=
  (cTry errs subE (cRet (cCall m_read_code (caCons (cV 0) caNil))) [("InvalidText", some 1, fun x => (cRet (cTup (caCons (cK (.str "text")) (caCons (cXf errs x "place") caNil)))))])
def m__law_asked : Sem' := runF 2 c__law_asked
/-- _law_label(state, script, k): 0 state 1 script 2 k 3 signs 4 j -/
def c__law_label : CS :=
  (cSeq (cAsg (tgN 3) (cK (.str "abcxyz019")))
    (cRet (cB gAddA (cB gAddA (cB gItem (cK (.str "abc")) (cCall m__law_draw (caCons (cV 0) (caCons (cV 1) (caCons (cK (.int 3)) caNil))))) (cMeth "str" gJoin (cK (.str "")) (caCons (cLc (ciR1 (caCons (cCall m__law_draw (caCons (cV 0) (caCons (cV 1) (caCons (cK (.int 6)) caNil)))) caNil)) (tgN 4) ctYes (cB gItem (cV 3) (cCall m__law_draw (caCons (cV 0) (caCons (cV 1) (caCons (cK (.int 9)) caNil))))) [4]) caNil))) (cB gItem (cK (.str "abcdefghij")) (cV 2)))))
def m__law_label : Sem' := runF 5 c__law_label
/-- _law_rows(state, script): 0 state 1 script 2 size 3 code 4 places 5 names 6 name 7 rows 8 k 9 number 10 words -/
def c__law_rows : CS :=
  (cSeq (cPar [2, 3, 4] (caCons (cB gAddA (cK (.int 1)) (cCall m__law_draw (caCons (cV 0) (caCons (cV 1) (caCons (cK (.int 12)) caNil))))) (caCons (cNew 0 caNil) (caCons (cEmptyK 0) caNil))))
    (cSeq (cAsg (tgN 5) (cLc (ciR1 (caCons (cCall m__law_draw (caCons (cV 0) (caCons (cV 1) (caCons (cK (.int 5)) caNil)))) caNil)) (tgN 8) ctYes (cCall m__law_label (caCons (cV 0) (caCons (cV 1) (caCons (cV 8) caNil)))) [8]))
    (cSeq (cForA (cV 5) (tgN 6) (cSetA (cV 4) (cV 6) (cCall m__law_draw (caCons (cV 0) (caCons (cV 1) (caCons (cB gAddA (cV 2) (cK (.int 1))) caNil))))))
    (cSeq (cAsg (tgN 7) (cNew 0 caNil))
    (cSeq (cFor (ciR1 (caCons (cB gAddA (cV 2) (cK (.int 1))) caNil)) (tgN 8) (cSeq (cForA (cV 5) (tgN 6) (cIfS (cTB (cB gEqA (cB gItem (cV 4) (cV 6)) (cV 8))) (cDrop (cApp (cV 7) (cLst (caCons (cB gAddA (cV 6) (cK (.str ":"))) caNil)))) cNext))
    (cIfS (cTB (cB gLtA (cV 8) (cV 2))) (cSeq (cAsg (tgN 9) (cCall m__law_instr (caCons (cV 0) (caCons (cV 1) (caCons (cK (.int 15)) caNil)))))
    (cSeq (cAsg (tgN 10) (cMeth "str" gSplit (cCall m_instruction_text (caCons (cV 9) caNil)) (caCons (cK (.str " ")) caNil)))
    (cSeq (cIfS (tAnd (cTB (cB gMem (cB gItem (cV 10) (cK (.int 0))) (cTup (caCons (cK (.str "bz")) (caCons (cK (.str "bn")) (caCons (cK (.str "jmp")) (caCons (cK (.str "jal")) caNil))))))) (cTB (cB gNeA (cV 5) (cLst caNil)))) (cSeq (cAsg (tgN 6) (cB gItem (cV 5) (cCall m__law_draw (caCons (cV 0) (caCons (cV 1) (caCons (cCall gLenA (caCons (cV 5) caNil)) caNil))))))
    (cPar [10, 9] (caCons (cB gAddA (cSl (cV 10) coN (coS (cU gNeg (cK (.int 1))))) (cLst (caCons (cV 6) caNil))) (caCons (cB gAddA (cB gSub (cV 9) (cB gAnd (cV 9) (cK (.int 255)))) (cB gItem (cV 4) (cV 6))) caNil)))) cNext)
    (cSeq (cDrop (cApp (cV 7) (cV 10)))
    (cDrop (cApp (cV 3) (cV 9))))))) cNext)))
    (cRet (cTup (caCons (cV 7) (caCons (cCall gTuple (caCons (cV 3) caNil)) (caCons (cV 4) caNil))))))))))
def m__law_rows : Sem' := runF 11 c__law_rows
/-- _law_text(state, script, rows): 0 state 1 script 2 rows 3 lines 4 numbers 5 words -/
def c__law_text : CS :=
  (cSeq (cPar [3, 4] (caCons (cNew 0 caNil) (caCons (cNew 0 caNil) caNil)))
    (cSeq (cForA (cV 2) (tgN 5) (cSeq (cIfS (cTB (cB gEqA (cCall m__law_draw (caCons (cV 0) (caCons (cV 1) (caCons (cK (.int 5)) caNil)))) (cK (.int 0)))) (cDrop (cApp (cV 3) (cB gItem (cLst (caCons (cK (.str "")) (caCons (cK (.str "   ")) (caCons (cK (.str "# note: li r1")) caNil)))) (cCall m__law_draw (caCons (cV 0) (caCons (cV 1) (caCons (cK (.int 3)) caNil))))))) cNext)
    (cSeq (cDrop (cApp (cV 4) (cCall gLenA (caCons (cV 3) caNil))))
    (cDrop (cApp (cV 3) (cB gAddA (cB gAddA (cB gItem (cLst (caCons (cK (.str " ")) (caCons (cK (.str "")) (caCons (cK (.str "  ")) caNil)))) (cCall m__law_draw (caCons (cV 0) (caCons (cV 1) (caCons (cK (.int 3)) caNil))))) (cMeth "str" gJoin (cB gItem (cLst (caCons (cK (.str " ")) (caCons (cK (.str "   ")) caNil))) (cCall m__law_draw (caCons (cV 0) (caCons (cV 1) (caCons (cK (.int 2)) caNil))))) (caCons (cV 5) caNil))) (cB gItem (cLst (caCons (cK (.str "")) (caCons (cK (.str " # x")) (caCons (cK (.str "  ")) caNil)))) (cCall m__law_draw (caCons (cV 0) (caCons (cV 1) (caCons (cK (.int 3)) caNil)))))))))))
    (cRet (cTup (caCons (cMeth "str" gJoin (cK (.str "\n")) (caCons (cV 3) caNil)) (caCons (cV 4) caNil))))))
def m__law_text : Sem' := runF 6 c__law_text
/-- _law_bent(state, script, rows, places): 0 state 1 script 2 rows 3 places 4 k 5 words 6 kind 7 at 8 word 9 bent -/
def c__law_bent : CS :=
  (cSeq (cAsg (tgN 4) (cCall m__law_draw (caCons (cV 0) (caCons (cV 1) (caCons (cCall gLenA (caCons (cV 2) caNil)) caNil)))))
    (cSeq (cPar [5, 6] (caCons (cB gItem (cV 2) (cV 4)) (caCons (cCall m__law_draw (caCons (cV 0) (caCons (cV 1) (caCons (cK (.int 5)) caNil)))) caNil)))
    (cSeq (cIfS (cTB (cB gEqA (cSl (cB gItem (cV 5) (cK (.int 0))) (coS (cU gNeg (cK (.int 1)))) coN) (cK (.str ":")))) (cRet (cB gItem (cLst (caCons (cTup (caCons (cB gAddA (cB gAddA (cSl (cV 2) coN (coS (cV 4))) (cLst (caCons (cLst (caCons (cB gAddA (cK (.str "9")) (cB gItem (cV 5) (cK (.int 0)))) caNil)) caNil))) (cSl (cV 2) (coS (cB gAddA (cV 4) (cK (.int 1)))) coN)) (caCons (cTup (caCons (cV 4) (caCons (cK (.int 0)) caNil))) caNil))) (caCons (cTup (caCons (cB gAddA (cV 2) (cLst (caCons (cV 5) caNil))) (caCons (cTup (caCons (cCall gLenA (caCons (cV 2) caNil)) (caCons (cK (.int 0)) caNil))) caNil))) caNil))) (cCall m__law_draw (caCons (cV 0) (caCons (cV 1) (caCons (cK (.int 2)) caNil)))))) cNext)
    (cSeq (cIfS (cTB (cB gEqA (cV 6) (cK (.int 0)))) (cRet (cTup (caCons (cB gAddA (cB gAddA (cSl (cV 2) coN (coS (cV 4))) (cLst (caCons (cB gAddA (cLst (caCons (cK (.str "hop")) caNil)) (cSl (cV 5) (coS (cK (.int 1))) coN)) caNil))) (cSl (cV 2) (coS (cB gAddA (cV 4) (cK (.int 1)))) coN)) (caCons (cTup (caCons (cV 4) (caCons (cK (.int 0)) caNil))) caNil)))) cNext)
    (cSeq (cIfS (cTB (cB gEqA (cV 6) (cK (.int 1)))) (cRet (cTup (caCons (cB gAddA (cB gAddA (cSl (cV 2) coN (coS (cV 4))) (cLst (caCons (cB gAddA (cV 5) (cLst (caCons (cK (.str "0")) caNil))) caNil))) (cSl (cV 2) (coS (cB gAddA (cV 4) (cK (.int 1)))) coN)) (caCons (cTup (caCons (cV 4) (caCons (cCall gLenA (caCons (cV 5) caNil)) caNil))) caNil)))) cNext)
    (cSeq (cIfS (tAnd (cTB (cB gEqA (cV 6) (cK (.int 2)))) (cTB (cB gGtA (cCall gLenA (caCons (cV 5) caNil)) (cK (.int 1))))) (cRet (cTup (caCons (cB gAddA (cB gAddA (cSl (cV 2) coN (coS (cV 4))) (cLst (caCons (cSl (cV 5) coN (coS (cU gNeg (cK (.int 1))))) caNil))) (cSl (cV 2) (coS (cB gAddA (cV 4) (cK (.int 1)))) coN)) (caCons (cTup (caCons (cV 4) (caCons (cB gSub (cCall gLenA (caCons (cV 5) caNil)) (cK (.int 1))) caNil))) caNil)))) cNext)
    (cSeq (cIfS (tAnd (cTB (cB gEqA (cV 6) (cK (.int 3)))) (cTB (cB gGtA (cCall gLenA (caCons (cV 5) caNil)) (cK (.int 1))))) (cSeq (cAsg (tgN 7) (cB gAddA (cK (.int 1)) (cCall m__law_draw (caCons (cV 0) (caCons (cV 1) (caCons (cB gSub (cCall gLenA (caCons (cV 5) caNil)) (cK (.int 1))) caNil))))))
    (cSeq (cAsg (tgN 8) (cB gItem (cLst (caCons (cK (.str "00")) (caCons (cK (.str "x9")) (caCons (cK (.str "999999")) (caCons (cK (.str "r4")) (caCons (cK (.str "0 1")) (caCons (cK (.str "65536")) (caCons (cK (.str "no")) caNil)))))))) (cCall m__law_draw (caCons (cV 0) (caCons (cV 1) (caCons (cK (.int 7)) caNil))))))
    (cSeq (cAsg (tgN 9) (cB gAddA (cB gAddA (cSl (cV 5) coN (coS (cV 7))) (cLst (caCons (cB gAddA (cB gItem (cMeth "str" gSplit (cV 8) (caCons (cK (.str " ")) caNil)) (cK (.int 0))) (cK (.str "!"))) caNil))) (cSl (cV 5) (coS (cB gAddA (cV 7) (cK (.int 1)))) coN)))
    (cRet (cTup (caCons (cB gAddA (cB gAddA (cSl (cV 2) coN (coS (cV 4))) (cLst (caCons (cV 9) caNil))) (cSl (cV 2) (coS (cB gAddA (cV 4) (cK (.int 1)))) coN)) (caCons (cTup (caCons (cV 4) (caCons (cV 7) caNil))) caNil))))))) cNext)
    (cRet (cTup (caCons (cB gAddA (cV 2) (cLst (caCons (cLst (caCons (cK (.str "jmp")) (caCons (cK (.str "nolabel")) caNil))) caNil))) (caCons (cTup (caCons (cCall gLenA (caCons (cV 2) caNil)) (caCons (cK (.int 1)) caNil))) caNil)))))))))))
def m__law_bent : Sem' := runF 10 c__law_bent
/-- law(script): 0 script 1 state 2 rows 3 code 4 places 5 text 6 numbers 7 turn 8 bent 9 place 10 told 11 first 12 lost 13 wanted 14 k 15 good 16 odd 17 full 18 one 19 words -/
def c_law : CS :=
  (cSeq (cAsg (tgN 1) (cNew 0 (caCons (cK (.int 0)) (caCons (cK (.int 0)) caNil))))
    (cSeq (cAsg (tgT [(tgN 2), (tgN 3), (tgN 4)]) (cCall m__law_rows (caCons (cV 1) (caCons (cV 0) caNil))))
    (cSeq (cAsg (tgT [(tgN 5), (tgN 6)]) (cCall m__law_text (caCons (cV 1) (caCons (cV 0) (caCons (cV 2) caNil)))))
    (cSeq (cIfS (tOr (cTB (cB gNeX (cCall m__law_asked (caCons (cV 5) caNil)) (cV 3))) (cTB (cB gNeX (cCall m_code_labels (caCons (cV 5) caNil)) (cV 4)))) (cRet (cK (.bl false))) cNext)
    (cSeq (cFor (ciR1 (caCons (cK (.int 6)) caNil)) (tgN 7) (cSeq (cAsg (tgT [(tgN 8), (tgN 9)]) (cCall m__law_bent (caCons (cV 1) (caCons (cV 0) (caCons (cV 2) (caCons (cV 4) caNil))))))
    (cSeq (cAsg (tgT [(tgN 5), (tgN 6)]) (cCall m__law_text (caCons (cV 1) (caCons (cV 0) (caCons (cV 8) caNil)))))
    (cIfS (cTB (cB gNeX (cV 8) (cV 2))) (cSeq (cAsg (tgN 10) (cCall m__law_asked (caCons (cV 5) caNil)))
    (cSeq (cAsg (tgN 11) (cTup (caCons (cK (.str "text")) (caCons (cTup (caCons (cB gItem (cV 6) (cB gItem (cV 9) (cK (.int 0)))) (caCons (cB gItem (cV 9) (cK (.int 1))) caNil))) caNil))))
    (cSeq (cAsg (tgN 12) (cLc (ciIt (cV 2)) (tgN 19) (tAnd (cTB (cB gNotMem (cV 19) (cV 8))) (cTB (cB gEqA (cSl (cB gItem (cV 19) (cK (.int 0))) (coS (cU gNeg (cK (.int 1)))) coN) (cK (.str ":"))))) (cSl (cB gItem (cV 19) (cK (.int 0))) coN (coS (cU gNeg (cK (.int 1))))) [19]))
    (cSeq (cAsg (tgN 13) (cLst caNil))
    (cSeq (cFor (ciR1 (caCons (cCall gLenA (caCons (cV 8) caNil)) caNil)) (tgN 14) (cIfS (tAnd (cTB (cB gNeX (cV 12) (cLst caNil))) (tAnd (cTB (cB gGtA (cCall gLenA (caCons (cB gItem (cV 8) (cV 14)) caNil)) (cK (.int 1)))) (cTB (cB gMem (cB gItem (cB gItem (cV 8) (cV 14)) (cU gNeg (cK (.int 1)))) (cV 12))))) (cAsg (tgN 13) (cB gAddA (cV 13) (cLst (caCons (cTup (caCons (cV 14) (caCons (cB gSub (cCall gLenA (caCons (cB gItem (cV 8) (cV 14)) caNil)) (cK (.int 1))) caNil))) caNil)))) cNext))
    (cSeq (cIfS (tAnd (cTB (cB gNeX (cV 13) (cLst caNil))) (cTB (cB gLtX (cB gItem (cV 13) (cK (.int 0))) (cV 9)))) (cAsg (tgN 11) (cTup (caCons (cK (.str "text")) (caCons (cTup (caCons (cB gItem (cV 6) (cB gItem (cB gItem (cV 13) (cK (.int 0))) (cK (.int 0)))) (caCons (cB gItem (cB gItem (cV 13) (cK (.int 0))) (cK (.int 1))) caNil))) caNil)))) cNext)
    (cIfS (cTB (cB gNeX (cV 10) (cV 11))) (cRet (cK (.bl false))) cNext))))))) cNext))))
    (cSeq (cAsg (tgN 15) (cLst (caCons (cK (.str "a")) (caCons (cK (.str "a1")) (caCons (cK (.str "abcdefghijkl")) (caCons (cK (.str "z9z")) caNil))))))
    (cSeq (cAsg (tgN 16) (cLst (caCons (cK .non) (caCons (cK (.str "")) (caCons (cK (.str "1a")) (caCons (cK (.str "A")) (caCons (cK (.str "a b")) (caCons (cK (.str "a_")) (caCons (cK (.str "abcdefghijklm")) (caCons (cK (.int 5)) (caCons (cK (.bl true)) (caCons (cK (.str "a:")) caNil))))))))))))
    (cSeq (cIfS (cTB (cB gNeX (cLc (ciIt (cB gAddA (cV 15) (cV 16))) (tgN 18) ctYes (cCall m_is_label (caCons (cV 18) caNil)) [18]) (cB gAddA (cB gMulX (cLst (caCons (cK (.bl true)) caNil)) (cK (.int 4))) (cB gMulX (cLst (caCons (cK (.bl false)) caNil)) (cK (.int 10)))))) (cRet (cK (.bl false))) cNext)
    (cSeq (cAsg (tgN 17) (cB gMulX (cK (.str "back\n")) (cK (.int 256))))
    (cSeq (cIfS (tOr (cTB (cB gNeX (cCall gLenA (caCons (cCall m__law_asked (caCons (cV 17) caNil)) caNil)) (cK (.int 256)))) (tOr (cTB (cB gNeX (cCall m__law_asked (caCons (cB gAddA (cV 17) (cK (.str "back"))) caNil)) (cTup (caCons (cK (.str "text")) (caCons (cTup (caCons (cK (.int 256)) (caCons (cK (.int 0)) caNil))) caNil))))) (tOr (cTB (cB gNeX (cCall m__law_asked (caCons (cB gAddA (cV 17) (cK (.str "a:"))) caNil)) (cTup (caCons (cK (.str "text")) (caCons (cTup (caCons (cK (.int 256)) (caCons (cK (.int 0)) caNil))) caNil))))) (cTB (cB gNeX (cCall m__law_asked (caCons (cB gAddA (cB gMulX (cK (.str "back\n")) (cK (.int 255))) (cK (.str "a:"))) caNil)) (cB gMulX (cTup (caCons (cB gShl (cK (.int 14)) (cK (.int 12))) caNil)) (cK (.int 255)))))))) (cRet (cK (.bl false))) cNext)
    (cSeq (cIfS (cTB (cB gNeX (cCall m__law_asked (caCons (cB gAddA (cB gAddA (cK (.str "jmp far\n")) (cB gMulX (cK (.str "back\n")) (cK (.int 256)))) (cK (.str "far:\n"))) caNil)) (cTup (caCons (cK (.str "text")) (caCons (cTup (caCons (cK (.int 0)) (caCons (cK (.int 1)) caNil))) caNil))))) (cRet (cK (.bl false))) cNext)
    (cRet (cAnd (cB gEqA (cCall m__law_asked (caCons (cK (.str "")) caNil)) (cTup caNil)) (cAnd (cB gEqA (cCall m__law_asked (caCons (cK (.str "# no\n\n")) caNil)) (cTup caNil)) (cAnd (cB gEqA (cCall m__law_asked (caCons (cK (.str "a:\na:")) caNil)) (cTup (caCons (cK (.str "text")) (caCons (cTup (caCons (cK (.int 1)) (caCons (cK (.int 0)) caNil))) caNil)))) (cB gEqA (cCall m__law_asked (caCons (cK (.str "jmp a\na:")) caNil)) (cTup (caCons (cB gOr (cB gShl (cK (.int 7)) (cK (.int 12))) (cK (.int 1))) caNil))))))))))))))))))
def m_law : Sem' := runF 20 c_law
end K26

/-! the texts that stand in the program -/
namespace K26
open MP PySem
@[simp] theorem lit_0 : Str.ofString "word" = tx [119, 111, 114, 100] := by decide +kernel
@[simp] theorem lit_1 : Str.ofString "w" = tx [119] := by decide +kernel
@[simp] theorem lit_2 : Str.ofString "ds" = tx [100, 115] := by decide +kernel
@[simp] theorem lit_3 : Str.ofString "n" = tx [110] := by decide +kernel
@[simp] theorem lit_4 : Str.ofString "p" = tx [112] := by decide +kernel
@[simp] theorem lit_5 : Str.ofString "d" = tx [100] := by decide +kernel
@[simp] theorem lit_6 : Str.ofString "s" = tx [115] := by decide +kernel
@[simp] theorem lit_7 : Str.ofString "r" = tx [114] := by decide +kernel
@[simp] theorem lit_8 : Str.ofString " " = tx [32] := by decide +kernel
@[simp] theorem lit_9 : Str.ofString "\n" = tx [10] := by decide +kernel
@[simp] theorem lit_10 : Str.ofString "" = tx [] := by decide +kernel
@[simp] theorem lit_11 : Str.ofString "#" = tx [35] := by decide +kernel
@[simp] theorem lit_12 : Str.ofString ":" = tx [58] := by decide +kernel
@[simp] theorem lit_13 : Str.ofString "0" = tx [48] := by decide +kernel
@[simp] theorem lit_14 : Str.ofString "text" = tx [116, 101, 120, 116] := by decide +kernel
@[simp] theorem lit_15 : Str.ofString "abcxyz019" = tx [97, 98, 99, 120, 121, 122, 48, 49, 57] := by decide +kernel
@[simp] theorem lit_16 : Str.ofString "abcdefghij" = tx [97, 98, 99, 100, 101, 102, 103, 104, 105, 106] := by decide +kernel
@[simp] theorem lit_17 : Str.ofString "abc" = tx [97, 98, 99] := by decide +kernel
@[simp] theorem lit_18 : Str.ofString "bz" = tx [98, 122] := by decide +kernel
@[simp] theorem lit_19 : Str.ofString "bn" = tx [98, 110] := by decide +kernel
@[simp] theorem lit_20 : Str.ofString "jmp" = tx [106, 109, 112] := by decide +kernel
@[simp] theorem lit_21 : Str.ofString "jal" = tx [106, 97, 108] := by decide +kernel
@[simp] theorem lit_22 : Str.ofString "   " = tx [32, 32, 32] := by decide +kernel
@[simp] theorem lit_23 : Str.ofString "# note: li r1" = tx [35, 32, 110, 111, 116, 101, 58, 32, 108, 105, 32, 114, 49] := by decide +kernel
@[simp] theorem lit_24 : Str.ofString " # x" = tx [32, 35, 32, 120] := by decide +kernel
@[simp] theorem lit_25 : Str.ofString "  " = tx [32, 32] := by decide +kernel
@[simp] theorem lit_26 : Str.ofString "00" = tx [48, 48] := by decide +kernel
@[simp] theorem lit_27 : Str.ofString "x9" = tx [120, 57] := by decide +kernel
@[simp] theorem lit_28 : Str.ofString "999999" = tx [57, 57, 57, 57, 57, 57] := by decide +kernel
@[simp] theorem lit_29 : Str.ofString "r4" = tx [114, 52] := by decide +kernel
@[simp] theorem lit_30 : Str.ofString "0 1" = tx [48, 32, 49] := by decide +kernel
@[simp] theorem lit_31 : Str.ofString "65536" = tx [54, 53, 53, 51, 54] := by decide +kernel
@[simp] theorem lit_32 : Str.ofString "no" = tx [110, 111] := by decide +kernel
@[simp] theorem lit_33 : Str.ofString "nolabel" = tx [110, 111, 108, 97, 98, 101, 108] := by decide +kernel
@[simp] theorem lit_34 : Str.ofString "!" = tx [33] := by decide +kernel
@[simp] theorem lit_35 : Str.ofString "hop" = tx [104, 111, 112] := by decide +kernel
@[simp] theorem lit_36 : Str.ofString "9" = tx [57] := by decide +kernel
@[simp] theorem lit_37 : Str.ofString "a" = tx [97] := by decide +kernel
@[simp] theorem lit_38 : Str.ofString "a1" = tx [97, 49] := by decide +kernel
@[simp] theorem lit_39 : Str.ofString "abcdefghijkl" = tx [97, 98, 99, 100, 101, 102, 103, 104, 105, 106, 107, 108] := by decide +kernel
@[simp] theorem lit_40 : Str.ofString "z9z" = tx [122, 57, 122] := by decide +kernel
@[simp] theorem lit_41 : Str.ofString "1a" = tx [49, 97] := by decide +kernel
@[simp] theorem lit_42 : Str.ofString "A" = tx [65] := by decide +kernel
@[simp] theorem lit_43 : Str.ofString "a b" = tx [97, 32, 98] := by decide +kernel
@[simp] theorem lit_44 : Str.ofString "a_" = tx [97, 95] := by decide +kernel
@[simp] theorem lit_45 : Str.ofString "abcdefghijklm" = tx [97, 98, 99, 100, 101, 102, 103, 104, 105, 106, 107, 108, 109] := by decide +kernel
@[simp] theorem lit_46 : Str.ofString "a:" = tx [97, 58] := by decide +kernel
@[simp] theorem lit_47 : Str.ofString "back\n" = tx [98, 97, 99, 107, 10] := by decide +kernel
@[simp] theorem lit_48 : Str.ofString "far:\n" = tx [102, 97, 114, 58, 10] := by decide +kernel
@[simp] theorem lit_49 : Str.ofString "# no\n\n" = tx [35, 32, 110, 111, 10, 10] := by decide +kernel
@[simp] theorem lit_50 : Str.ofString "a:\na:" = tx [97, 58, 10, 97, 58] := by decide +kernel
@[simp] theorem lit_51 : Str.ofString "jmp a\na:" = tx [106, 109, 112, 32, 97, 10, 97, 58] := by decide +kernel
@[simp] theorem lit_52 : Str.ofString "back" = tx [98, 97, 99, 107] := by decide +kernel
@[simp] theorem lit_53 : Str.ofString "jmp far\n" = tx [106, 109, 112, 32, 102, 97, 114, 10] := by decide +kernel
@[simp] theorem lit_54 : Str.ofString "add" = tx [97, 100, 100] := by decide +kernel
@[simp] theorem lit_55 : Str.ofString "sub" = tx [115, 117, 98] := by decide +kernel
@[simp] theorem lit_56 : Str.ofString "and" = tx [97, 110, 100] := by decide +kernel
@[simp] theorem lit_57 : Str.ofString "or" = tx [111, 114] := by decide +kernel
@[simp] theorem lit_58 : Str.ofString "xor" = tx [120, 111, 114] := by decide +kernel
@[simp] theorem lit_59 : Str.ofString "less" = tx [108, 101, 115, 115] := by decide +kernel
@[simp] theorem lit_60 : Str.ofString "same" = tx [115, 97, 109, 101] := by decide +kernel
@[simp] theorem lit_61 : Str.ofString "0123456789" = tx [48, 49, 50, 51, 52, 53, 54, 55, 56, 57] := by decide +kernel
@[simp] theorem lit_62 : Str.ofString "abcdefghijklmnopqrstuvwxyz" = tx [97, 98, 99, 100, 101, 102, 103, 104, 105, 106, 107, 108, 109, 110, 111, 112, 113, 114, 115, 116, 117, 118, 119, 120, 121, 122] := by decide +kernel
@[simp] theorem lit_63 : Str.ofString "li" = tx [108, 105] := by decide +kernel
@[simp] theorem lit_64 : Str.ofString "dn" = tx [100, 110] := by decide +kernel
@[simp] theorem lit_65 : Str.ofString "addi" = tx [97, 100, 100, 105] := by decide +kernel
@[simp] theorem lit_66 : Str.ofString "dsn" = tx [100, 115, 110] := by decide +kernel
@[simp] theorem lit_67 : Str.ofString "ld" = tx [108, 100] := by decide +kernel
@[simp] theorem lit_68 : Str.ofString "st" = tx [115, 116] := by decide +kernel
@[simp] theorem lit_69 : Str.ofString "dp" = tx [100, 112] := by decide +kernel
@[simp] theorem lit_70 : Str.ofString "jr" = tx [106, 114] := by decide +kernel
@[simp] theorem lit_71 : Str.ofString "show" = tx [115, 104, 111, 119] := by decide +kernel
@[simp] theorem lit_72 : Str.ofString "trap" = tx [116, 114, 97, 112] := by decide +kernel
@[simp] theorem lit_73 : Str.ofString "mfs" = tx [109, 102, 115] := by decide +kernel
@[simp] theorem lit_74 : Str.ofString "mts" = tx [109, 116, 115] := by decide +kernel
theorem lits : Str.ofString "word" = tx [119, 111, 114, 100] ∧ Str.ofString "w" = tx [119] ∧ Str.ofString "ds" = tx [100, 115] ∧ Str.ofString "n" = tx [110] ∧ Str.ofString "p" = tx [112] ∧ Str.ofString "d" = tx [100] ∧ Str.ofString "s" = tx [115] ∧ Str.ofString "r" = tx [114] ∧ Str.ofString " " = tx [32] ∧ Str.ofString "\n" = tx [10] ∧ Str.ofString "" = tx [] ∧ Str.ofString "#" = tx [35] ∧ Str.ofString ":" = tx [58] ∧ Str.ofString "0" = tx [48] ∧ Str.ofString "text" = tx [116, 101, 120, 116] ∧ Str.ofString "abcxyz019" = tx [97, 98, 99, 120, 121, 122, 48, 49, 57] ∧ Str.ofString "abcdefghij" = tx [97, 98, 99, 100, 101, 102, 103, 104, 105, 106] ∧ Str.ofString "abc" = tx [97, 98, 99] ∧ Str.ofString "bz" = tx [98, 122] ∧ Str.ofString "bn" = tx [98, 110] ∧ Str.ofString "jmp" = tx [106, 109, 112] ∧ Str.ofString "jal" = tx [106, 97, 108] ∧ Str.ofString "   " = tx [32, 32, 32] ∧ Str.ofString "# note: li r1" = tx [35, 32, 110, 111, 116, 101, 58, 32, 108, 105, 32, 114, 49] ∧ Str.ofString " # x" = tx [32, 35, 32, 120] ∧ Str.ofString "  " = tx [32, 32] ∧ Str.ofString "00" = tx [48, 48] ∧ Str.ofString "x9" = tx [120, 57] ∧ Str.ofString "999999" = tx [57, 57, 57, 57, 57, 57] ∧ Str.ofString "r4" = tx [114, 52] ∧ Str.ofString "0 1" = tx [48, 32, 49] ∧ Str.ofString "65536" = tx [54, 53, 53, 51, 54] ∧ Str.ofString "no" = tx [110, 111] ∧ Str.ofString "nolabel" = tx [110, 111, 108, 97, 98, 101, 108] ∧ Str.ofString "!" = tx [33] ∧ Str.ofString "hop" = tx [104, 111, 112] ∧ Str.ofString "9" = tx [57] ∧ Str.ofString "a" = tx [97] ∧ Str.ofString "a1" = tx [97, 49] ∧ Str.ofString "abcdefghijkl" = tx [97, 98, 99, 100, 101, 102, 103, 104, 105, 106, 107, 108] ∧ Str.ofString "z9z" = tx [122, 57, 122] ∧ Str.ofString "1a" = tx [49, 97] ∧ Str.ofString "A" = tx [65] ∧ Str.ofString "a b" = tx [97, 32, 98] ∧ Str.ofString "a_" = tx [97, 95] ∧ Str.ofString "abcdefghijklm" = tx [97, 98, 99, 100, 101, 102, 103, 104, 105, 106, 107, 108, 109] ∧ Str.ofString "a:" = tx [97, 58] ∧ Str.ofString "back\n" = tx [98, 97, 99, 107, 10] ∧ Str.ofString "far:\n" = tx [102, 97, 114, 58, 10] ∧ Str.ofString "# no\n\n" = tx [35, 32, 110, 111, 10, 10] ∧ Str.ofString "a:\na:" = tx [97, 58, 10, 97, 58] ∧ Str.ofString "jmp a\na:" = tx [106, 109, 112, 32, 97, 10, 97, 58] ∧ Str.ofString "back" = tx [98, 97, 99, 107] ∧ Str.ofString "jmp far\n" = tx [106, 109, 112, 32, 102, 97, 114, 10] ∧ Str.ofString "add" = tx [97, 100, 100] ∧ Str.ofString "sub" = tx [115, 117, 98] ∧ Str.ofString "and" = tx [97, 110, 100] ∧ Str.ofString "or" = tx [111, 114] ∧ Str.ofString "xor" = tx [120, 111, 114] ∧ Str.ofString "less" = tx [108, 101, 115, 115] ∧ Str.ofString "same" = tx [115, 97, 109, 101] ∧ Str.ofString "0123456789" = tx [48, 49, 50, 51, 52, 53, 54, 55, 56, 57] ∧ Str.ofString "abcdefghijklmnopqrstuvwxyz" = tx [97, 98, 99, 100, 101, 102, 103, 104, 105, 106, 107, 108, 109, 110, 111, 112, 113, 114, 115, 116, 117, 118, 119, 120, 121, 122] ∧ Str.ofString "li" = tx [108, 105] ∧ Str.ofString "dn" = tx [100, 110] ∧ Str.ofString "addi" = tx [97, 100, 100, 105] ∧ Str.ofString "dsn" = tx [100, 115, 110] ∧ Str.ofString "ld" = tx [108, 100] ∧ Str.ofString "st" = tx [115, 116] ∧ Str.ofString "dp" = tx [100, 112] ∧ Str.ofString "jr" = tx [106, 114] ∧ Str.ofString "show" = tx [115, 104, 111, 119] ∧ Str.ofString "trap" = tx [116, 114, 97, 112] ∧ Str.ofString "mfs" = tx [109, 102, 115] ∧ Str.ofString "mts" = tx [109, 116, 115] := ⟨lit_0, lit_1, lit_2, lit_3, lit_4, lit_5, lit_6, lit_7, lit_8, lit_9, lit_10, lit_11, lit_12, lit_13, lit_14, lit_15, lit_16, lit_17, lit_18, lit_19, lit_20, lit_21, lit_22, lit_23, lit_24, lit_25, lit_26, lit_27, lit_28, lit_29, lit_30, lit_31, lit_32, lit_33, lit_34, lit_35, lit_36, lit_37, lit_38, lit_39, lit_40, lit_41, lit_42, lit_43, lit_44, lit_45, lit_46, lit_47, lit_48, lit_49, lit_50, lit_51, lit_52, lit_53, lit_54, lit_55, lit_56, lit_57, lit_58, lit_59, lit_60, lit_61, lit_62, lit_63, lit_64, lit_65, lit_66, lit_67, lit_68, lit_69, lit_70, lit_71, lit_72, lit_73, lit_74⟩
end K26

namespace K26
open MP PySem L2
/-! ### numbers of 16 bits -/
def isIns : D → Bool
  | .int i => decide (0 ≤ i ∧ i < 65536)
  | _ => false
/-- values of plain kinds -/
def kind : D → Bool
  | .non => true
  | .bl _ => true
  | .int _ => true
  | .str _ => true
  | .tup _ => true
  | .lst _ => true
  | _ => false
def isCnt : D → Bool
  | .int i => decide (0 ≤ i)
  | _ => false
theorem count_ok (d : D) (S : Sto) (h : kind d = true) : m_is_count [d] S = .ok (.bl (isCnt d)) S := by
  cases d <;> first | (simp [kind] at h; done) | simp [m_is_count, c_is_count, runF_eq, isCnt]
theorem ins_ok (d : D) (S : Sto) (h : kind d = true) : m_is_instruction [d] S = .ok (.bl (isIns d)) S := by
  have e := count_ok d ([] :: S) h
  cases d <;> first | (simp [kind] at h; done) | simp [m_is_instruction, c_is_instruction, runF_eq, e, isCnt, isIns]
  rename_i i
  by_cases h0 : 0 ≤ i <;> simp [h0]
abbrev inv (p : D) : Exn := ⟨"InvalidCode", [("name", .str "InvalidCode"), ("place", p)]⟩
abbrev oP (n : Int) : Int := n / 4096
abbrev dP (n : Int) : Int := n / 1024 % 4
abbrev sP (n : Int) : Int := n / 256 % 4
abbrev iP (n : Int) : Int := n % 256
theorem check_ok {n : Int} (h0 : 0 ≤ n) (h : n < 65536) (S : Sto) : m_check_instruction [.int n] S = .ok .non S := by
  have e := ins_ok (.int n) ([] :: S) rfl
  have hi : isIns (.int n) = true := by simp [isIns]; omega
  rw [hi] at e
  simp [m_check_instruction, c_check_instruction, runF_eq, e]
theorem check_bad {d : D} (hk : kind d = true) (h : isIns d = false) (S : Sto) : m_check_instruction [d] S = .err (inv .non) S := by
  have e := ins_ok d ([] :: S) hk
  rw [h] at e
  have lx := leaveX_flat (n := 1) (c := "InvalidCode") (a := "name") (b := "place") (z := "InvalidCode") (d := .non) [] S (by decide) rfl
  simp [m_check_instruction, c_check_instruction, runF_eq, e, lx]
theorem parts_ok {n : Int} (h0 : 0 ≤ n) (h : n < 65536) (S : Sto) : m_parts_of [.int n] S = .ok (.tup [.int (oP n), .int (dP n), .int (sP n), .int (iP n)]) S := by
  have c := check_ok h0 h ([] :: S)
  simp only [m_parts_of, c_parts_of, runF_eq]
  simp [c]
theorem parts_bad {d : D} (hk : kind d = true) (h : isIns d = false) (S : Sto) : m_parts_of [d] S = .err (inv .non) S := by
  have c := check_bad hk h ([] :: S)
  simp only [m_parts_of, c_parts_of, runF_eq]
  have lx := leaveX_flat (n := 1) (c := "InvalidCode") (a := "name") (b := "place") (z := "InvalidCode") (d := .non) [] S (by decide) rfl
  simp [c, lx]
end K26

namespace K26
open MP PySem L2
/-! ### instruction(op, rd, rs, imm) -/
theorem rng4 : rngD 0 4 = [.int 0, .int 1, .int 2, .int 3] := rfl
theorem at4 (a b c d : D) : atI [a, b, c, d] 0 = some a ∧ atI [a, b, c, d] 1 = some b ∧ atI [a, b, c, d] 2 = some c ∧ atI [a, b, c, d] 3 = some d := ⟨rfl, rfl, rfl, rfl⟩
theorem leaveP (p : D) (S : Sto) (h : D.flat 1 p = true) : leaveX (inv p) ([] :: S) = .err (inv p) S := leaveX_flat (n := 1) [] S (by decide) h
def okP (l : Int) : D → Bool
  | .int i => decide (0 ≤ i ∧ i < l)
  | _ => false
def tP (p0 p1 p2 p3 : D) (x6 : Option D) : Ro := [some p0, some p1, some p2, some p3, some (.tup [p0, p1, p2, p3]), some (.tup [.int 16, .int 4, .int 4, .int 256]), x6]
def bP : CS := (cIfS (tOr (tNot (cT (cCall m_is_count (caCons (cB gItem (cV 4) (cV 6)) caNil)))) (cTB (cB gGeA (cB gItem (cV 4) (cV 6)) (cB gItem (cV 5) (cV 6))))) (cRaise "InvalidCode" (cV 6)) cNext)
/-- one part is looked at -/
theorem part_step (p0 p1 p2 p3 : D) (k : Nat) (p : D) (l : Int) (hp : atI [p0, p1, p2, p3] (k : Int) = some p) (hl : atI [D.int 16, .int 4, .int 4, .int 256] (k : Int) = some (.int l)) (hk : kind p = true) (S : Sto) :
    bP (tP p0 p1 p2 p3 (some (.int k))) S = if okP l p = true then .nx (tP p0 p1 p2 p3 (some (.int k))) S else .err (inv (.int k)) (tP p0 p1 p2 p3 (some (.int k))) S := by
  have c := count_ok p S hk
  unfold bP tP
  cases p <;> first | (simp [kind] at hk; done) | skip
  case int i =>
    by_cases h0 : 0 ≤ i
    · by_cases h1 : i < l
      · have : ¬ l ≤ i := by omega
        simp [hp, hl, c, isCnt, h0, h1, this, okP]
      · have : l ≤ i := by omega
        simp [hp, hl, c, isCnt, h0, h1, this, okP]
    · simp [hp, hl, c, isCnt, h0, okP]
  all_goals simp [hp, hl, c, isCnt, okP]
theorem instr_any (p0 p1 p2 p3 : D) (h0 : kind p0 = true) (h1 : kind p1 = true) (h2 : kind p2 = true) (h3 : kind p3 = true) (S : Sto) :
    forL (tgN 6) bP (rngD 0 4) (tP p0 p1 p2 p3 none) S = if okP 16 p0 = false then .err (inv (.int 0)) (tP p0 p1 p2 p3 (some (.int 0))) S else if okP 4 p1 = false then .err (inv (.int 1)) (tP p0 p1 p2 p3 (some (.int 1))) S
      else if okP 4 p2 = false then .err (inv (.int 2)) (tP p0 p1 p2 p3 (some (.int 2))) S else if okP 256 p3 = false then .err (inv (.int 3)) (tP p0 p1 p2 p3 (some (.int 3))) S else .nx (tP p0 p1 p2 p3 (some (.int 3))) S := by
  have s0 := part_step p0 p1 p2 p3 0 p0 16 rfl rfl h0 S
  have s1 := part_step p0 p1 p2 p3 1 p1 4 rfl rfl h1 S
  have s2 := part_step p0 p1 p2 p3 2 p2 4 rfl rfl h2 S
  have s3 := part_step p0 p1 p2 p3 3 p3 256 rfl rfl h3 S
  rw [rng4]
  cases e0 : okP 16 p0 with
  | false => rw [e0] at s0; exact (forL_err rfl s0).trans rfl
  | true =>
    rw [e0] at s0
    rw [forL_nx (ρ1 := tP p0 p1 p2 p3 (some (.int 0))) rfl s0]
    cases e1 : okP 4 p1 with
    | false => rw [e1] at s1; exact (forL_err rfl s1).trans rfl
    | true =>
      rw [e1] at s1
      rw [forL_nx (ρ1 := tP p0 p1 p2 p3 (some (.int 1))) rfl s1]
      cases e2 : okP 4 p2 with
      | false => rw [e2] at s2; exact (forL_err rfl s2).trans rfl
      | true =>
        rw [e2] at s2
        rw [forL_nx (ρ1 := tP p0 p1 p2 p3 (some (.int 2))) rfl s2]
        cases e3 : okP 256 p3 with
        | false => rw [e3] at s3; exact (forL_err rfl s3).trans rfl
        | true =>
          rw [e3] at s3
          rw [forL_nx (ρ1 := tP p0 p1 p2 p3 (some (.int 3))) rfl s3]
          rfl
/-- the parts of a number, laid together -/
theorem laid {n : Int} (h0 : 0 ≤ n) (h : n < 65536) : Builtin.bitOr (Builtin.bitOr (Builtin.bitOr (oP n * 4096) (dP n * 1024)) (sP n * 256)) (iP n) = n := by
  obtain ⟨n, rfl⟩ : ∃ k : Nat, n = k := ⟨n.toNat, by omega⟩
  have a1 := or_parts (q := n / 4096) (r := n / 1024 % 4 * 1024) (k := 12) (by omega)
  have a2 := or_parts (q := n / 1024) (r := n / 256 % 4 * 256) (k := 10) (by omega)
  have a3 := or_parts (q := n / 256) (r := n % 256) (k := 8) (by omega)
  have b1 : Builtin.bitOr (oP n * 4096) (dP n * 1024) = ((n / 1024 : Nat) : Int) * 2 ^ 10 := by
    have e1 : oP (n : Int) * 4096 = ((n / 4096 : Nat) : Int) * 2 ^ 12 := by simp [oP]
    have e2 : dP (n : Int) * 1024 = ((n / 1024 % 4 * 1024 : Nat) : Int) := by simp [dP]
    rw [e1, e2, a1]; omega
  have b2 : Builtin.bitOr (((n / 1024 : Nat) : Int) * 2 ^ 10) (sP n * 256) = ((n / 256 : Nat) : Int) * 2 ^ 8 := by
    have e2 : sP (n : Int) * 256 = ((n / 256 % 4 * 256 : Nat) : Int) := by simp [sP]
    rw [e2, a2]; omega
  have e3 : iP (n : Int) = ((n % 256 : Nat) : Int) := by simp [iP]
  rw [b1, b2, e3, a3]; omega
theorem small {i l : Int} (h : 0 ≤ i ∧ i < l) (hl : l ≤ 65536) : i.natAbs < 18446744073709551616 := by omega
/-- instruction of parts that are some -/
theorem instr_good {o d s i : Int} (h0 : 0 ≤ o ∧ o < 16) (h1 : 0 ≤ d ∧ d < 4) (h2 : 0 ≤ s ∧ s < 4) (h3 : 0 ≤ i ∧ i < 256) (S : Sto) :
    m_instruction [.int o, .int d, .int s, .int i] S = .ok (.int (Builtin.bitOr (Builtin.bitOr (Builtin.bitOr (o * 4096) (d * 1024)) (s * 256)) i)) S := by
  have e0 : okP 16 (.int o) = true := by simp [okP]; omega
  have e1 : okP 4 (.int d) = true := by simp [okP]; omega
  have e2 : okP 4 (.int s) = true := by simp [okP]; omega
  have e3 : okP 256 (.int i) = true := by simp [okP]; omega
  have L := instr_any (.int o) (.int d) (.int s) (.int i) rfl rfl rfl rfl ([] :: S)
  rw [e0, e1, e2, e3] at L
  simp only [Bool.true_eq_false, if_false] at L
  unfold bP tP at L
  have n0 := small h0 (by decide)
  have n1 := small h1 (by decide)
  have n2 := small h2 (by decide)
  simp only [m_instruction, c_instruction, runF_eq]
  simp [L, n0, n1, n2]
theorem oP_lim {n : Int} (h0 : 0 ≤ n) (h : n < 65536) : 0 ≤ oP n ∧ oP n < 16 := by unfold oP; omega
theorem dP_lim (n : Int) : 0 ≤ dP n ∧ dP n < 4 := by unfold dP; omega
theorem sP_lim (n : Int) : 0 ≤ sP n ∧ sP n < 4 := by unfold sP; omega
theorem iP_lim (n : Int) : 0 ≤ iP n ∧ iP n < 256 := by unfold iP; omega
theorem instr_ok {n : Int} (h0 : 0 ≤ n) (h : n < 65536) (S : Sto) : m_instruction [.int (oP n), .int (dP n), .int (sP n), .int (iP n)] S = .ok (.int n) S := by
  rw [instr_good (oP_lim h0 h) (dP_lim n) (sP_lim n) (iP_lim n), laid h0 h]
/-- the first part that is none -/
theorem instr_bad (p0 p1 p2 p3 : D) (h0 : kind p0 = true) (h1 : kind p1 = true) (h2 : kind p2 = true) (h3 : kind p3 = true) (k : Nat) (hk : (k = 0 ∧ okP 16 p0 = false) ∨ (k = 1 ∧ okP 16 p0 = true ∧ okP 4 p1 = false) ∨ (k = 2 ∧ okP 16 p0 = true ∧ okP 4 p1 = true ∧ okP 4 p2 = false) ∨
    (k = 3 ∧ okP 16 p0 = true ∧ okP 4 p1 = true ∧ okP 4 p2 = true ∧ okP 256 p3 = false)) (S : Sto) : m_instruction [p0, p1, p2, p3] S = .err (inv (.int k)) S := by
  have L := instr_any p0 p1 p2 p3 h0 h1 h2 h3 ([] :: S)
  have lx := leaveP (.int k) S rfl
  have L2 : ∃ ρ, forL (tgN 6) bP (rngD 0 4) (tP p0 p1 p2 p3 none) ([] :: S) = .err (inv (.int k)) ρ ([] :: S) := by
    rcases hk with ⟨rfl, a⟩ | ⟨rfl, a, b⟩ | ⟨rfl, a, b, c⟩ | ⟨rfl, a, b, c, d⟩
    · rw [a] at L; exact ⟨_, L⟩
    · rw [a, b] at L; exact ⟨_, L⟩
    · rw [a, b, c] at L; exact ⟨_, L⟩
    · rw [a, b, c, d] at L; exact ⟨_, L⟩
  clear L
  obtain ⟨ρ, L⟩ := L2
  unfold bP tP at L
  simp only [m_instruction, c_instruction, runF_eq]
  simp [L, lx]
end K26

/-! the statements of the longer defs, one by one (printed by pieces.py) -/
namespace K26
open MP PySem L2
noncomputable def fo1 : CS := (cAsg (tgT [(tgN 1) , (tgN 2) , (tgN 3) , (tgN 4)]) (cCall m_parts_of (caCons (cV 0) caNil)))
noncomputable def fo2 : CS := (cAsg (tgN 5) (cTup (caCons (cK (.str "word")) (caCons (cK (.str "w")) caNil))))
noncomputable def fo3 : CS := (cIfS (tAnd (cTB (cB gEqA (cV 1) (cK (.int 0)))) (cTB (cB gLtA (cV 4) (cCall gLenA (caCons (cK k_ALU) caNil))))) (cAsg (tgN 5) (cTup (caCons (cB gItem (cK k_ALU) (cV 4)) (caCons (cK (.str "ds")) caNil)))) cNext)
noncomputable def fo4b : CS := (cIfS (cTB (cB gEqA (cB gItem (cTget t_FORMS (cV 6)) (cK (.int 0))) (cV 1))) (cAsg (tgN 5) (cTup (caCons (cV 6) (caCons (cB gItem (cTget t_FORMS (cV 6)) (cK (.int 1))) caNil)))) cNext)
noncomputable def fo4 : CS := (cFor (ciTab t_FORMS) (tgN 6) fo4b)
noncomputable def fo5 : CS := (cAsg (tgN 7) (cB gItem (cV 5) (cK (.int 1))))
noncomputable def fo6 : CS := (cAsg (tgN 8) (cOr (cAnd (cB gGtA (cV 2) (cK (.int 0))) (cB gNotMem (cK (.str "d")) (cV 7))) (cAnd (cB gGtA (cV 3) (cK (.int 0))) (cB gNotMem (cK (.str "s")) (cV 7)))))
noncomputable def fo7 : CS := (cIfS (tAnd (cTB (cB gGtA (cV 1) (cK (.int 0)))) (tAnd (cTB (cB gGtA (cV 4) (cK (.int 0)))) (tAnd (cTB (cB gNotMem (cK (.str "n")) (cV 7))) (cTB (cB gNotMem (cK (.str "p")) (cV 7)))))) (cAsg (tgN 8) (cK (.bl true))) cNext)
noncomputable def fo8 : CS := (cRet (cIf (cT (cV 8)) (cTup (caCons (cK (.str "word")) (caCons (cK (.str "w")) caNil))) (cV 5)))
theorem c_form_of_eq : c_form_of = cSeq fo1 (cSeq fo2 (cSeq fo3 (cSeq fo4 (cSeq fo5 (cSeq fo6 (cSeq fo7 (fo8))))))) := rfl
noncomputable def it1 : CS := (cAsg (tgT [(tgN 1) , (tgN 2) , (tgN 3) , (tgN 4)]) (cCall m_parts_of (caCons (cV 0) caNil)))
noncomputable def it2 : CS := (cAsg (tgT [(tgN 5) , (tgN 6)]) (cCall m_form_of (caCons (cV 0) caNil)))
noncomputable def it3 : CS := (cAsg (tgN 7) (cDisp [((cK (.str "d")) , (cJs [(cK (.str "r")) , (cFmt (cV 2))])) , ((cK (.str "s")) , (cJs [(cK (.str "r")) , (cFmt (cV 3))])) , ((cK (.str "n")) , (cCall gStrI (caCons (cV 4) caNil))) , ((cK (.str "p")) , (cCall gStrI (caCons (cV 4) caNil))) , ((cK (.str "w")) , (cCall gStrI (caCons (cV 0) caNil)))]))
noncomputable def it4 : CS := (cRet (cMeth "str" gJoin (cK (.str " ")) (caCons (cB gAddA (cLst (caCons (cV 5) caNil)) (cLc (ciIt (cV 6)) (tgN 8) ctYes (cB gItem (cV 7) (cV 8)) [8])) caNil)))
theorem c_instruction_text_eq : c_instruction_text = cSeq it1 (cSeq it2 (cSeq it3 (it4))) := rfl
noncomputable def cr1 : CS := (cPar [1, 2] (caCons (cMeth "str" gSplit (cV 0) (caCons (cK (.str "\n")) caNil)) (caCons (cNew 0 caNil) caNil)))
noncomputable def cr2b : CS := (cSeq (cAsg (tgN 4) (cLc (ciIt (cMeth "str" gSplit (cB gItem (cMeth "str" gSplit (cB gItem (cV 1) (cV 3)) (caCons (cK (.str "#")) caNil)) (cK (.int 0))) (caCons (cK (.str " ")) caNil))) (tgN 5) (cTB (cB gNeA (cV 5) (cK (.str "")))) (cV 5) [5])) (cIfS (cTB (cB gGtA (cCall gLenA (caCons (cV 4) caNil)) (cK (.int 0)))) (cDrop (cApp (cV 2) (cTup (caCons (cV 3) (caCons (cV 4) caNil))))) cNext))
noncomputable def cr2 : CS := (cFor (ciR1 (caCons (cCall gLenA (caCons (cV 1) caNil)) caNil)) (tgN 3) cr2b)
noncomputable def cr3 : CS := (cRet (cV 2))
theorem c_code_rows_eq : c_code_rows = cSeq cr1 (cSeq cr2 (cr3)) := rfl
noncomputable def nb1 : CS := (cIfS (tOr (tNot (cTB (cChain gLtA gLeA (cK (.int 0)) (cCall gLenA (caCons (cV 0) caNil)) (cK (.int 5))))) (tOr (tNot (cT (cCall gAll (caCons (cLc (ciIt (cV 0)) (tgN 2) ctYes (cB gMem (cV 2) (cK k_FIGURES)) [2]) caNil)))) (tAnd (cTB (cB gEqA (cB gItem (cV 0) (cK (.int 0))) (cK (.str "0")))) (cTB (cB gNeA (cV 0) (cK (.str "0"))))))) (cRet (cK .non)) cNext)
noncomputable def nb2 : CS := (cRet (cIf (cTB (cB gLtA (cCall gIntA (caCons (cV 0) caNil)) (cV 1))) (cCall gIntA (caCons (cV 0) caNil)) (cK .non)))
theorem c_number_below_eq : c_number_below = cSeq nb1 (nb2) := rfl
noncomputable def pt1 : CS := (cIfS (cTB (cB gMem (cV 1) (cTup (caCons (cK (.str "d")) (caCons (cK (.str "s")) caNil))))) (cRet (cIf (cTB (cB gEqA (cSl (cV 0) coN (coS (cK (.int 1)))) (cK (.str "r")))) (cCall m_number_below (caCons (cSl (cV 0) (coS (cK (.int 1))) coN) (caCons (cK (.int 4)) caNil))) (cK .non))) cNext)
noncomputable def pt2 : CS := (cIfS (tAnd (cTB (cB gEqA (cV 1) (cK (.str "p")))) (cTB (cB gMem (cV 0) (cV 2)))) (cRet (cIf (cTB (cB gLtA (cB gItem (cV 2) (cV 0)) (cK (.int 256)))) (cB gItem (cV 2) (cV 0)) (cK .non))) cNext)
noncomputable def pt3 : CS := (cRet (cCall m_number_below (caCons (cV 0) (caCons (cIf (cTB (cB gEqA (cV 1) (cK (.str "w")))) (cB gShl (cK (.int 1)) (cK (.int 16))) (cK (.int 256))) caNil))))
theorem c_part_told_eq : c_part_told = cSeq pt1 (cSeq pt2 (pt3)) := rfl
noncomputable def rt1 : CS := (cIfS (cTB (cB gMem (cB gItem (cV 1) (cK (.int 0))) (cK k_ALU))) (cPar [3, 4, 5] (caCons (cK (.int 0)) (caCons (cK (.str "ds")) (caCons (cTidx l_ALU (caCons (cB gItem (cV 1) (cK (.int 0))) caNil)) caNil)))) (cIfS (cTB (cTin t_FORMS (cB gItem (cV 1) (cK (.int 0))))) (cPar [3, 4, 5] (caCons (cB gItem (cTget t_FORMS (cB gItem (cV 1) (cK (.int 0)))) (cK (.int 0))) (caCons (cB gItem (cTget t_FORMS (cB gItem (cV 1) (cK (.int 0)))) (cK (.int 1))) (caCons (cK (.int 0)) caNil)))) (cIfS (cTB (cB gEqA (cB gItem (cV 1) (cK (.int 0))) (cK (.str "word")))) (cAsg (tgT [(tgN 3) , (tgN 4) , (tgN 5)]) (cTup (caCons (cK (.int 0)) (caCons (cK (.str "w")) (caCons (cK (.int 0)) caNil))))) (cRaise "InvalidText" (cTup (caCons (cV 0) (caCons (cK (.int 0)) caNil)))))))
noncomputable def rt2 : CS := (cAsg (tgN 6) (cDispN 0 [((cK (.str "d")) , (cK (.int 0))) , ((cK (.str "s")) , (cK (.int 0))) , ((cK (.str "n")) , (cV 5))]))
noncomputable def rt3b : CS := (cSeq (cAsg (tgN 8) (cIf (cTB (cB gLtA (cB gAddA (cV 7) (cK (.int 1))) (cCall gLenA (caCons (cV 1) caNil)))) (cCall m_part_told (caCons (cB gItem (cV 1) (cB gAddA (cV 7) (cK (.int 1)))) (caCons (cB gItem (cV 4) (cV 7)) (caCons (cV 2) caNil)))) (cK .non))) (cSeq (cIfS (cTB (cB gIsN (cV 8) (cK .non))) (cRaise "InvalidText" (cTup (caCons (cV 0) (caCons (cB gAddA (cV 7) (cK (.int 1))) caNil)))) cNext) (cSetA (cV 6) (cIf (cTB (cB gEqA (cB gItem (cV 4) (cV 7)) (cK (.str "p")))) (cK (.str "n")) (cB gItem (cV 4) (cV 7))) (cV 8))))
noncomputable def rt3 : CS := (cFor (ciR1 (caCons (cCall gLenA (caCons (cV 4) caNil)) caNil)) (tgN 7) rt3b)
noncomputable def rt4 : CS := (cIfS (cTB (cB gGtA (cCall gLenA (caCons (cV 1) caNil)) (cB gAddA (cCall gLenA (caCons (cV 4) caNil)) (cK (.int 1))))) (cRaise "InvalidText" (cTup (caCons (cV 0) (caCons (cB gAddA (cCall gLenA (caCons (cV 4) caNil)) (cK (.int 1))) caNil)))) cNext)
noncomputable def rt5 : CS := (cRet (cIf (cTB (cB gEqA (cV 4) (cK (.str "w")))) (cB gItem (cV 6) (cK (.str "w"))) (cCall m_instruction (caCons (cV 3) (caCons (cB gItem (cV 6) (cK (.str "d"))) (caCons (cB gItem (cV 6) (cK (.str "s"))) (caCons (cB gItem (cV 6) (cK (.str "n"))) caNil)))))))
theorem c_row_told_eq : c_row_told = cSeq rt1 (cSeq rt2 (cSeq rt3 (cSeq rt4 (rt5)))) := rfl
noncomputable def cl1 : CS := (cPar [1, 2] (caCons (cEmptyK 0) (caCons (cK (.int 0)) caNil)))
noncomputable def cl2b : CS := (cIfS (cT (cCall m_is_label_row (caCons (cV 4) caNil))) (cDrop (cSetd (cV 1) (cSl (cB gItem (cV 4) (cK (.int 0))) coN (coS (cU gNeg (cK (.int 1))))) (cV 2))) (cAug 2 gIAddA (cK (.int 1))))
noncomputable def cl2 : CS := (cForA (cCall m_code_rows (caCons (cV 0) caNil)) (tgT [(tgN 3) , (tgN 4)]) cl2b)
noncomputable def cl3 : CS := (cRet (cV 1))
theorem c_code_labels_eq : c_code_labels = cSeq cl1 (cSeq cl2 (cl3)) := rfl
noncomputable def rc1 : CS := (cPar [1, 2, 3] (caCons (cCall m_code_labels (caCons (cV 0) caNil)) (caCons (cEmptyK 0) (caCons (cNew 0 caNil) caNil))))
noncomputable def rc2b_t : CS := (cSeq (cIfS (tOr (cTB (cB gMem (cB gItem (cV 5) (cK (.int 0))) (cV 2))) (cTB (cB gGeA (cB gItem (cV 1) (cSl (cB gItem (cV 5) (cK (.int 0))) coN (coS (cU gNeg (cK (.int 1)))))) (cK (.int 256))))) (cRaise "InvalidText" (cTup (caCons (cV 4) (caCons (cK (.int 0)) caNil)))) cNext) (cSetA (cV 2) (cB gItem (cV 5) (cK (.int 0))) (cK (.bl true))))
noncomputable def rc2b_e : CS := (cSeq (cIfS (cTB (cB gEqA (cCall gLenA (caCons (cV 3) caNil)) (cK (.int 256)))) (cRaise "InvalidText" (cTup (caCons (cV 4) (caCons (cK (.int 0)) caNil)))) cNext) (cDrop (cApp (cV 3) (cCall m_row_told (caCons (cV 4) (caCons (cV 5) (caCons (cV 1) caNil)))))))
noncomputable def rc2b : CS := (cIfS (cT (cCall m_is_label_row (caCons (cV 5) caNil))) rc2b_t rc2b_e)
noncomputable def rc2 : CS := (cForA (cCall m_code_rows (caCons (cV 0) caNil)) (tgT [(tgN 4) , (tgN 5)]) rc2b)
noncomputable def rc3 : CS := (cRet (cCall gTuple (caCons (cV 3) caNil)))
theorem c_read_code_eq : c_read_code = cSeq rc1 (cSeq rc2 (rc3)) := rfl
noncomputable def dr1t : CS := (cSeq (cAsg (tgN 3) (cK (.int 0))) (cSeq (cIfS (cTB (cB gGtA (cCall gLenA (caCons (cV 1) caNil)) (cK (.int 0)))) (cAsg (tgN 3) (cB gItem (cV 1) (cB gMod (cB gItem (cV 0) (cK (.int 0))) (cCall gLenA (caCons (cV 1) caNil))))) cNext) (cSeq (cIfS (cTB (cB gLtA (cV 3) (cK (.int 0)))) (cAsg (tgN 3) (cB gSub (cK (.int 1)) (cB gMul (cK (.int 2)) (cV 3)))) cNext) (cSeq (cAsg (tgN 4) (cB gMod (cCall gIntA (caCons (cB gMul (cB gAddA (cB gAddA (cV 3) (cB gMul (cB gItem (cV 0) (cK (.int 0))) (cK (.int 7919)))) (cK (.int 1))) (cK (.int 48271))) caNil)) (cK (.int 2147483647)))) (cSeq (cSetA (cV 0) (cK (.int 1)) (cB gMod (cCall gIntA (caCons (cB gAddA (cB gMul (cV 4) (cK (.int 69621))) (cB gMul (cB gItem (cV 0) (cK (.int 0))) (cK (.int 104729)))) caNil)) (cK (.int 4294967291)))) (cSeq (cIfS (tAnd (cTB (cB gGeA (cV 3) (cB gPow (cK (.int 10)) (cK (.int 18))))) (cTB (cB gLtA (cB gItem (cV 0) (cK (.int 0))) (cCall gLenA (caCons (cV 1) caNil))))) (cSetA (cV 0) (cK (.int 1)) (cV 3)) cNext) (cSetA (cV 0) (cK (.int 0)) (cB gAddA (cB gItem (cV 0) (cK (.int 0))) (cK (.int 1))))))))))
noncomputable def dr1 : CS := (cIfS (cTB (cB gEqA (cB gItem (cV 0) (cK (.int 1))) (cK (.int 0)))) dr1t cNext)
noncomputable def dr2 : CS := (cAsg (tgN 5) (cB gMod (cCall gIntA (caCons (cB gItem (cV 0) (cK (.int 1))) caNil)) (cV 2)))
noncomputable def dr3 : CS := (cSetA (cV 0) (cK (.int 1)) (cB gFdiv (cB gItem (cV 0) (cK (.int 1))) (cV 2)))
noncomputable def dr4 : CS := (cRet (cV 5))
theorem c__law_draw_eq : c__law_draw = cSeq dr1 (cSeq dr2 (cSeq dr3 (dr4))) := rfl
noncomputable def la1 : CS := (cAsg (tgN 3) (cK (.str "abcxyz019")))
noncomputable def la2 : CS := (cRet (cB gAddA (cB gAddA (cB gItem (cK (.str "abc")) (cCall m__law_draw (caCons (cV 0) (caCons (cV 1) (caCons (cK (.int 3)) caNil))))) (cMeth "str" gJoin (cK (.str "")) (caCons (cLc (ciR1 (caCons (cCall m__law_draw (caCons (cV 0) (caCons (cV 1) (caCons (cK (.int 6)) caNil)))) caNil)) (tgN 4) ctYes (cB gItem (cV 3) (cCall m__law_draw (caCons (cV 0) (caCons (cV 1) (caCons (cK (.int 9)) caNil))))) [4]) caNil))) (cB gItem (cK (.str "abcdefghij")) (cV 2))))
theorem c__law_label_eq : c__law_label = cSeq la1 (la2) := rfl
noncomputable def ro1 : CS := (cPar [2, 3, 4] (caCons (cB gAddA (cK (.int 1)) (cCall m__law_draw (caCons (cV 0) (caCons (cV 1) (caCons (cK (.int 12)) caNil))))) (caCons (cNew 0 caNil) (caCons (cEmptyK 0) caNil))))
noncomputable def ro2 : CS := (cAsg (tgN 5) (cLc (ciR1 (caCons (cCall m__law_draw (caCons (cV 0) (caCons (cV 1) (caCons (cK (.int 5)) caNil)))) caNil)) (tgN 8) ctYes (cCall m__law_label (caCons (cV 0) (caCons (cV 1) (caCons (cV 8) caNil)))) [8]))
noncomputable def ro3b : CS := (cSetA (cV 4) (cV 6) (cCall m__law_draw (caCons (cV 0) (caCons (cV 1) (caCons (cB gAddA (cV 2) (cK (.int 1))) caNil)))))
noncomputable def ro3 : CS := (cForA (cV 5) (tgN 6) ro3b)
noncomputable def ro4 : CS := (cAsg (tgN 7) (cNew 0 caNil))
noncomputable def ro5b1b : CS := (cIfS (cTB (cB gEqA (cB gItem (cV 4) (cV 6)) (cV 8))) (cDrop (cApp (cV 7) (cLst (caCons (cB gAddA (cV 6) (cK (.str ":"))) caNil)))) cNext)
noncomputable def ro5b2t3t : CS := (cSeq (cAsg (tgN 6) (cB gItem (cV 5) (cCall m__law_draw (caCons (cV 0) (caCons (cV 1) (caCons (cCall gLenA (caCons (cV 5) caNil)) caNil)))))) (cPar [10, 9] (caCons (cB gAddA (cSl (cV 10) coN (coS (cU gNeg (cK (.int 1))))) (cLst (caCons (cV 6) caNil))) (caCons (cB gAddA (cB gSub (cV 9) (cB gAnd (cV 9) (cK (.int 255)))) (cB gItem (cV 4) (cV 6))) caNil))))
noncomputable def ro5b2t : CS := (cSeq (cAsg (tgN 9) (cCall m__law_instr (caCons (cV 0) (caCons (cV 1) (caCons (cK (.int 15)) caNil))))) (cSeq (cAsg (tgN 10) (cMeth "str" gSplit (cCall m_instruction_text (caCons (cV 9) caNil)) (caCons (cK (.str " ")) caNil))) (cSeq (cIfS (tAnd (cTB (cB gMem (cB gItem (cV 10) (cK (.int 0))) (cTup (caCons (cK (.str "bz")) (caCons (cK (.str "bn")) (caCons (cK (.str "jmp")) (caCons (cK (.str "jal")) caNil))))))) (cTB (cB gNeA (cV 5) (cLst caNil)))) ro5b2t3t cNext) (cSeq (cDrop (cApp (cV 7) (cV 10))) (cDrop (cApp (cV 3) (cV 9)))))))
noncomputable def ro5b : CS := (cSeq (cForA (cV 5) (tgN 6) ro5b1b) (cIfS (cTB (cB gLtA (cV 8) (cV 2))) ro5b2t cNext))
noncomputable def ro5 : CS := (cFor (ciR1 (caCons (cB gAddA (cV 2) (cK (.int 1))) caNil)) (tgN 8) ro5b)
noncomputable def ro6 : CS := (cRet (cTup (caCons (cV 7) (caCons (cCall gTuple (caCons (cV 3) caNil)) (caCons (cV 4) caNil)))))
theorem c__law_rows_eq : c__law_rows = cSeq ro1 (cSeq ro2 (cSeq ro3 (cSeq ro4 (cSeq ro5 (ro6))))) := rfl
noncomputable def lt1 : CS := (cPar [3, 4] (caCons (cNew 0 caNil) (caCons (cNew 0 caNil) caNil)))
noncomputable def lt2b : CS := (cSeq (cIfS (cTB (cB gEqA (cCall m__law_draw (caCons (cV 0) (caCons (cV 1) (caCons (cK (.int 5)) caNil)))) (cK (.int 0)))) (cDrop (cApp (cV 3) (cB gItem (cLst (caCons (cK (.str "")) (caCons (cK (.str "   ")) (caCons (cK (.str "# note: li r1")) caNil)))) (cCall m__law_draw (caCons (cV 0) (caCons (cV 1) (caCons (cK (.int 3)) caNil))))))) cNext) (cSeq (cDrop (cApp (cV 4) (cCall gLenA (caCons (cV 3) caNil)))) (cDrop (cApp (cV 3) (cB gAddA (cB gAddA (cB gItem (cLst (caCons (cK (.str " ")) (caCons (cK (.str "")) (caCons (cK (.str "  ")) caNil)))) (cCall m__law_draw (caCons (cV 0) (caCons (cV 1) (caCons (cK (.int 3)) caNil))))) (cMeth "str" gJoin (cB gItem (cLst (caCons (cK (.str " ")) (caCons (cK (.str "   ")) caNil))) (cCall m__law_draw (caCons (cV 0) (caCons (cV 1) (caCons (cK (.int 2)) caNil))))) (caCons (cV 5) caNil))) (cB gItem (cLst (caCons (cK (.str "")) (caCons (cK (.str " # x")) (caCons (cK (.str "  ")) caNil)))) (cCall m__law_draw (caCons (cV 0) (caCons (cV 1) (caCons (cK (.int 3)) caNil))))))))))
noncomputable def lt2 : CS := (cForA (cV 2) (tgN 5) lt2b)
noncomputable def lt3 : CS := (cRet (cTup (caCons (cMeth "str" gJoin (cK (.str "\n")) (caCons (cV 3) caNil)) (caCons (cV 4) caNil))))
theorem c__law_text_eq : c__law_text = cSeq lt1 (cSeq lt2 (lt3)) := rfl
noncomputable def lb1 : CS := (cAsg (tgN 4) (cCall m__law_draw (caCons (cV 0) (caCons (cV 1) (caCons (cCall gLenA (caCons (cV 2) caNil)) caNil)))))
noncomputable def lb2 : CS := (cPar [5, 6] (caCons (cB gItem (cV 2) (cV 4)) (caCons (cCall m__law_draw (caCons (cV 0) (caCons (cV 1) (caCons (cK (.int 5)) caNil)))) caNil)))
noncomputable def lb3 : CS := (cIfS (cTB (cB gEqA (cSl (cB gItem (cV 5) (cK (.int 0))) (coS (cU gNeg (cK (.int 1)))) coN) (cK (.str ":")))) (cRet (cB gItem (cLst (caCons (cTup (caCons (cB gAddA (cB gAddA (cSl (cV 2) coN (coS (cV 4))) (cLst (caCons (cLst (caCons (cB gAddA (cK (.str "9")) (cB gItem (cV 5) (cK (.int 0)))) caNil)) caNil))) (cSl (cV 2) (coS (cB gAddA (cV 4) (cK (.int 1)))) coN)) (caCons (cTup (caCons (cV 4) (caCons (cK (.int 0)) caNil))) caNil))) (caCons (cTup (caCons (cB gAddA (cV 2) (cLst (caCons (cV 5) caNil))) (caCons (cTup (caCons (cCall gLenA (caCons (cV 2) caNil)) (caCons (cK (.int 0)) caNil))) caNil))) caNil))) (cCall m__law_draw (caCons (cV 0) (caCons (cV 1) (caCons (cK (.int 2)) caNil)))))) cNext)
noncomputable def lb4 : CS := (cIfS (cTB (cB gEqA (cV 6) (cK (.int 0)))) (cRet (cTup (caCons (cB gAddA (cB gAddA (cSl (cV 2) coN (coS (cV 4))) (cLst (caCons (cB gAddA (cLst (caCons (cK (.str "hop")) caNil)) (cSl (cV 5) (coS (cK (.int 1))) coN)) caNil))) (cSl (cV 2) (coS (cB gAddA (cV 4) (cK (.int 1)))) coN)) (caCons (cTup (caCons (cV 4) (caCons (cK (.int 0)) caNil))) caNil)))) cNext)
noncomputable def lb5 : CS := (cIfS (cTB (cB gEqA (cV 6) (cK (.int 1)))) (cRet (cTup (caCons (cB gAddA (cB gAddA (cSl (cV 2) coN (coS (cV 4))) (cLst (caCons (cB gAddA (cV 5) (cLst (caCons (cK (.str "0")) caNil))) caNil))) (cSl (cV 2) (coS (cB gAddA (cV 4) (cK (.int 1)))) coN)) (caCons (cTup (caCons (cV 4) (caCons (cCall gLenA (caCons (cV 5) caNil)) caNil))) caNil)))) cNext)
noncomputable def lb6 : CS := (cIfS (tAnd (cTB (cB gEqA (cV 6) (cK (.int 2)))) (cTB (cB gGtA (cCall gLenA (caCons (cV 5) caNil)) (cK (.int 1))))) (cRet (cTup (caCons (cB gAddA (cB gAddA (cSl (cV 2) coN (coS (cV 4))) (cLst (caCons (cSl (cV 5) coN (coS (cU gNeg (cK (.int 1))))) caNil))) (cSl (cV 2) (coS (cB gAddA (cV 4) (cK (.int 1)))) coN)) (caCons (cTup (caCons (cV 4) (caCons (cB gSub (cCall gLenA (caCons (cV 5) caNil)) (cK (.int 1))) caNil))) caNil)))) cNext)
noncomputable def lb7t : CS := (cSeq (cAsg (tgN 7) (cB gAddA (cK (.int 1)) (cCall m__law_draw (caCons (cV 0) (caCons (cV 1) (caCons (cB gSub (cCall gLenA (caCons (cV 5) caNil)) (cK (.int 1))) caNil)))))) (cSeq (cAsg (tgN 8) (cB gItem (cLst (caCons (cK (.str "00")) (caCons (cK (.str "x9")) (caCons (cK (.str "999999")) (caCons (cK (.str "r4")) (caCons (cK (.str "0 1")) (caCons (cK (.str "65536")) (caCons (cK (.str "no")) caNil)))))))) (cCall m__law_draw (caCons (cV 0) (caCons (cV 1) (caCons (cK (.int 7)) caNil)))))) (cSeq (cAsg (tgN 9) (cB gAddA (cB gAddA (cSl (cV 5) coN (coS (cV 7))) (cLst (caCons (cB gAddA (cB gItem (cMeth "str" gSplit (cV 8) (caCons (cK (.str " ")) caNil)) (cK (.int 0))) (cK (.str "!"))) caNil))) (cSl (cV 5) (coS (cB gAddA (cV 7) (cK (.int 1)))) coN))) (cRet (cTup (caCons (cB gAddA (cB gAddA (cSl (cV 2) coN (coS (cV 4))) (cLst (caCons (cV 9) caNil))) (cSl (cV 2) (coS (cB gAddA (cV 4) (cK (.int 1)))) coN)) (caCons (cTup (caCons (cV 4) (caCons (cV 7) caNil))) caNil)))))))
noncomputable def lb7 : CS := (cIfS (tAnd (cTB (cB gEqA (cV 6) (cK (.int 3)))) (cTB (cB gGtA (cCall gLenA (caCons (cV 5) caNil)) (cK (.int 1))))) lb7t cNext)
noncomputable def lb8 : CS := (cRet (cTup (caCons (cB gAddA (cV 2) (cLst (caCons (cLst (caCons (cK (.str "jmp")) (caCons (cK (.str "nolabel")) caNil))) caNil))) (caCons (cTup (caCons (cCall gLenA (caCons (cV 2) caNil)) (caCons (cK (.int 1)) caNil))) caNil))))
theorem c__law_bent_eq : c__law_bent = cSeq lb1 (cSeq lb2 (cSeq lb3 (cSeq lb4 (cSeq lb5 (cSeq lb6 (cSeq lb7 (lb8))))))) := rfl
noncomputable def q1 : CS := (cAsg (tgN 1) (cNew 0 (caCons (cK (.int 0)) (caCons (cK (.int 0)) caNil))))
noncomputable def q2 : CS := (cAsg (tgT [(tgN 2) , (tgN 3) , (tgN 4)]) (cCall m__law_rows (caCons (cV 1) (caCons (cV 0) caNil))))
noncomputable def q3 : CS := (cAsg (tgT [(tgN 5) , (tgN 6)]) (cCall m__law_text (caCons (cV 1) (caCons (cV 0) (caCons (cV 2) caNil)))))
noncomputable def q4 : CS := (cIfS (tOr (cTB (cB gNeX (cCall m__law_asked (caCons (cV 5) caNil)) (cV 3))) (cTB (cB gNeX (cCall m_code_labels (caCons (cV 5) caNil)) (cV 4)))) (cRet (cK (.bl false))) cNext)
noncomputable def q5b3t5b : CS := (cIfS (tAnd (cTB (cB gNeX (cV 12) (cLst caNil))) (tAnd (cTB (cB gGtA (cCall gLenA (caCons (cB gItem (cV 8) (cV 14)) caNil)) (cK (.int 1)))) (cTB (cB gMem (cB gItem (cB gItem (cV 8) (cV 14)) (cU gNeg (cK (.int 1)))) (cV 12))))) (cAsg (tgN 13) (cB gAddA (cV 13) (cLst (caCons (cTup (caCons (cV 14) (caCons (cB gSub (cCall gLenA (caCons (cB gItem (cV 8) (cV 14)) caNil)) (cK (.int 1))) caNil))) caNil)))) cNext)
noncomputable def q5b3t : CS := (cSeq (cAsg (tgN 10) (cCall m__law_asked (caCons (cV 5) caNil))) (cSeq (cAsg (tgN 11) (cTup (caCons (cK (.str "text")) (caCons (cTup (caCons (cB gItem (cV 6) (cB gItem (cV 9) (cK (.int 0)))) (caCons (cB gItem (cV 9) (cK (.int 1))) caNil))) caNil)))) (cSeq (cAsg (tgN 12) (cLc (ciIt (cV 2)) (tgN 19) (tAnd (cTB (cB gNotMem (cV 19) (cV 8))) (cTB (cB gEqA (cSl (cB gItem (cV 19) (cK (.int 0))) (coS (cU gNeg (cK (.int 1)))) coN) (cK (.str ":"))))) (cSl (cB gItem (cV 19) (cK (.int 0))) coN (coS (cU gNeg (cK (.int 1))))) [19])) (cSeq (cAsg (tgN 13) (cLst caNil)) (cSeq (cFor (ciR1 (caCons (cCall gLenA (caCons (cV 8) caNil)) caNil)) (tgN 14) q5b3t5b) (cSeq (cIfS (tAnd (cTB (cB gNeX (cV 13) (cLst caNil))) (cTB (cB gLtX (cB gItem (cV 13) (cK (.int 0))) (cV 9)))) (cAsg (tgN 11) (cTup (caCons (cK (.str "text")) (caCons (cTup (caCons (cB gItem (cV 6) (cB gItem (cB gItem (cV 13) (cK (.int 0))) (cK (.int 0)))) (caCons (cB gItem (cB gItem (cV 13) (cK (.int 0))) (cK (.int 1))) caNil))) caNil)))) cNext) (cIfS (cTB (cB gNeX (cV 10) (cV 11))) (cRet (cK (.bl false))) cNext)))))))
noncomputable def q5b : CS := (cSeq (cAsg (tgT [(tgN 8) , (tgN 9)]) (cCall m__law_bent (caCons (cV 1) (caCons (cV 0) (caCons (cV 2) (caCons (cV 4) caNil)))))) (cSeq (cAsg (tgT [(tgN 5) , (tgN 6)]) (cCall m__law_text (caCons (cV 1) (caCons (cV 0) (caCons (cV 8) caNil))))) (cIfS (cTB (cB gNeX (cV 8) (cV 2))) q5b3t cNext)))
noncomputable def q5 : CS := (cFor (ciR1 (caCons (cK (.int 6)) caNil)) (tgN 7) q5b)
noncomputable def q6 : CS := (cAsg (tgN 15) (cLst (caCons (cK (.str "a")) (caCons (cK (.str "a1")) (caCons (cK (.str "abcdefghijkl")) (caCons (cK (.str "z9z")) caNil))))))
noncomputable def q7 : CS := (cAsg (tgN 16) (cLst (caCons (cK .non) (caCons (cK (.str "")) (caCons (cK (.str "1a")) (caCons (cK (.str "A")) (caCons (cK (.str "a b")) (caCons (cK (.str "a_")) (caCons (cK (.str "abcdefghijklm")) (caCons (cK (.int 5)) (caCons (cK (.bl true)) (caCons (cK (.str "a:")) caNil))))))))))))
noncomputable def q8 : CS := (cIfS (cTB (cB gNeX (cLc (ciIt (cB gAddA (cV 15) (cV 16))) (tgN 18) ctYes (cCall m_is_label (caCons (cV 18) caNil)) [18]) (cB gAddA (cB gMulX (cLst (caCons (cK (.bl true)) caNil)) (cK (.int 4))) (cB gMulX (cLst (caCons (cK (.bl false)) caNil)) (cK (.int 10)))))) (cRet (cK (.bl false))) cNext)
noncomputable def q9 : CS := (cAsg (tgN 17) (cB gMulX (cK (.str "back\n")) (cK (.int 256))))
noncomputable def q10 : CS := (cIfS (tOr (cTB (cB gNeX (cCall gLenA (caCons (cCall m__law_asked (caCons (cV 17) caNil)) caNil)) (cK (.int 256)))) (tOr (cTB (cB gNeX (cCall m__law_asked (caCons (cB gAddA (cV 17) (cK (.str "back"))) caNil)) (cTup (caCons (cK (.str "text")) (caCons (cTup (caCons (cK (.int 256)) (caCons (cK (.int 0)) caNil))) caNil))))) (tOr (cTB (cB gNeX (cCall m__law_asked (caCons (cB gAddA (cV 17) (cK (.str "a:"))) caNil)) (cTup (caCons (cK (.str "text")) (caCons (cTup (caCons (cK (.int 256)) (caCons (cK (.int 0)) caNil))) caNil))))) (cTB (cB gNeX (cCall m__law_asked (caCons (cB gAddA (cB gMulX (cK (.str "back\n")) (cK (.int 255))) (cK (.str "a:"))) caNil)) (cB gMulX (cTup (caCons (cB gShl (cK (.int 14)) (cK (.int 12))) caNil)) (cK (.int 255)))))))) (cRet (cK (.bl false))) cNext)
noncomputable def q11 : CS := (cIfS (cTB (cB gNeX (cCall m__law_asked (caCons (cB gAddA (cB gAddA (cK (.str "jmp far\n")) (cB gMulX (cK (.str "back\n")) (cK (.int 256)))) (cK (.str "far:\n"))) caNil)) (cTup (caCons (cK (.str "text")) (caCons (cTup (caCons (cK (.int 0)) (caCons (cK (.int 1)) caNil))) caNil))))) (cRet (cK (.bl false))) cNext)
noncomputable def q12 : CS := (cRet (cAnd (cB gEqA (cCall m__law_asked (caCons (cK (.str "")) caNil)) (cTup caNil)) (cAnd (cB gEqA (cCall m__law_asked (caCons (cK (.str "# no\n\n")) caNil)) (cTup caNil)) (cAnd (cB gEqA (cCall m__law_asked (caCons (cK (.str "a:\na:")) caNil)) (cTup (caCons (cK (.str "text")) (caCons (cTup (caCons (cK (.int 1)) (caCons (cK (.int 0)) caNil))) caNil)))) (cB gEqA (cCall m__law_asked (caCons (cK (.str "jmp a\na:")) caNil)) (cTup (caCons (cB gOr (cB gShl (cK (.int 7)) (cK (.int 12))) (cK (.int 1))) caNil)))))))
theorem c_law_eq : c_law = cSeq q1 (cSeq q2 (cSeq q3 (cSeq q4 (cSeq q5 (cSeq q6 (cSeq q7 (cSeq q8 (cSeq q9 (cSeq q10 (cSeq q11 (q12))))))))))) := rfl
end K26

namespace K26
open MP PySem L2
/-! ### the forms of instructions -/
def F : List (List Nat × Int × List Nat) := [([108, 105], 1, [100, 110]), ([97, 100, 100, 105], 2, [100, 115, 110]), ([108, 100], 3, [100, 115, 110]), ([115, 116], 4, [100, 115, 110]), ([98, 122], 5, [100, 112]), ([98, 110], 6, [100, 112]), ([106, 109, 112], 7, [112]), ([106, 97, 108], 8, [100, 112]), ([106, 114], 9, [115]), ([115, 104, 111, 119], 10, [100]), ([116, 114, 97, 112], 11, [110]), ([109, 102, 115], 12, [100, 110]), ([109, 116, 115], 13, [100, 110]), ([98, 97, 99, 107], 14, [])]
def aluL : List (List Nat) := [[97, 100, 100], [115, 117, 98], [97, 110, 100], [111, 114], [120, 111, 114], [108, 101, 115, 115], [115, 97, 109, 101]]
def wordW : List Nat := [119, 111, 114, 100]
def lookF : List (List Nat × Int × List Nat) → List Nat → Option (Int × List Nat)
  | [], _ => none
  | e :: r, w => if e.1 = w then some e.2 else lookF r w
def tF (f : List (List Nat × Int × List Nat)) : List (Str × D) := f.map fun e => (tx e.1, .tup [.int e.2.1, .str (tx e.2.2)])
theorem forms_eq : t_FORMS = tF F := by
  unfold t_FORMS
  simp only [lits]
  rfl
theorem tabGet_F (w : List Nat) : ∀ f : List (List Nat × Int × List Nat), tabGet (tF f) (tx w) = (lookF f w).map fun p => .tup [.int p.1, .str (tx p.2)]
  | [] => rfl
  | e :: f => by
    have ih := tabGet_F w f
    unfold tF at ih ⊢
    rw [List.map_cons, tabGet, lookF]
    by_cases h : e.1 = w
    · simp [h]
    · simp only [tx_eq, h, if_false]
      exact ih
def pickF (o : Int) : List (List Nat × Int × List Nat) → List Nat × List Nat → List Nat × List Nat
  | [], p => p
  | e :: f, p => pickF o f (if e.2.1 = o then (e.1, e.2.2) else p)
def baseP (o i : Int) : List Nat × List Nat := pickF o F (if o = 0 ∧ i < 7 then (aluL.getD i.toNat [], [100, 115]) else (wordW, [119]))
def spareP (o d s i : Int) (g : List Nat) : Bool := (decide (0 < d) && !decide (100 ∈ g)) || (decide (0 < s) && !decide (115 ∈ g)) || (decide (0 < o) && decide (0 < i) && !decide (110 ∈ g) && !decide (112 ∈ g))
def formP (n : Int) : List Nat × List Nat := if spareP (oP n) (dP n) (sP n) (iP n) (baseP (oP n) (iP n)).2 then (wordW, [119]) else baseP (oP n) (iP n)
theorem pick_loop (o : Int) (x0 x1 x2 x3 x4 x7 x8 : Option D) (S : Sto) : ∀ (f : List (List Nat × Int × List Nat)) (p : List Nat × List Nat) (x6 : Option D), (∀ e ∈ f, lookF F e.1 = some e.2) → ∃ x6',
    forL (tgN 6) fo4b
      (f.map fun e => D.str (tx e.1)) [x0, some (.int o), x2, x3, x4, some (.tup [.str (tx p.1), .str (tx p.2)]), x6, x7, x8] S = .nx [x0, some (.int o), x2, x3, x4, some (.tup [.str (tx (pickF o f p).1), .str (tx (pickF o f p).2)]), x6', x7, x8] S
  | [], p, x6, _ => ⟨x6, rfl⟩
  | e :: f, p, x6, h => by
    obtain ⟨y, q⟩ := pick_loop o x0 x1 x2 x3 x4 x7 x8 S f (if e.2.1 = o then (e.1, e.2.2) else p) (some (.str (tx e.1))) fun g hg => h g (List.mem_cons_of_mem _ hg)
    refine ⟨y, ?_⟩
    have t := tabGet_F e.1 F
    rw [h e List.mem_cons_self, ← forms_eq] at t
    rw [List.map_cons, pickF, ← q]
    refine forL_nx rfl ?_
    have i0 : ∀ (a b : D), atI [a, b] 0 = some a := fun _ _ => rfl
    have i1 : ∀ (a b : D), atI [a, b] 1 = some b := fun _ _ => rfl
    by_cases ho : e.2.1 = o
    · simp [fo4b, t, i0, i1, ho]
    · simp [fo4b, t, i0, i1, ho]
theorem F_self : ∀ e ∈ F, lookF F e.1 = some e.2 := by decide +kernel
theorem alu_at {i : Int} (h0 : 0 ≤ i) (h : i < 7) : atI [D.str (tx [97, 100, 100]), .str (tx [115, 117, 98]), .str (tx [97, 110, 100]), .str (tx [111, 114]), .str (tx [120, 111, 114]), .str (tx [108, 101, 115, 115]), .str (tx [115, 97, 109, 101])] i = some (.str (tx (aluL.getD i.toNat []))) := by
  have : i = 0 ∨ i = 1 ∨ i = 2 ∨ i = 3 ∨ i = 4 ∨ i = 5 ∨ i = 6 := by omega
  rcases this with rfl | rfl | rfl | rfl | rfl | rfl | rfl <;> rfl
abbrev oA : D := .tup [D.str (tx [97, 100, 100]), .str (tx [115, 117, 98]), .str (tx [97, 110, 100]), .str (tx [111, 114]), .str (tx [120, 111, 114]), .str (tx [108, 101, 115, 115]), .str (tx [115, 97, 109, 101])]
theorem alu_eq : k_ALU = oA := by unfold k_ALU; simp only [lits]
section
variable (x0 x1 x2 x3 x4 x5 x6 x7 x8 : Option D) (S : Sto)
theorem fo3_ok (o i : Int) (hi : 0 ≤ i) : fo3 [x0, some (.int o), x2, x3, some (.int i), some (.tup [.str (tx wordW), .str (tx [119])]), x6, x7, x8] S =
    .nx [x0, some (.int o), x2, x3, some (.int i), some (.tup [.str (tx (if o = 0 ∧ i < 7 then (aluL.getD i.toNat [], [100, 115]) else (wordW, [119])).1), .str (tx (if o = 0 ∧ i < 7 then (aluL.getD i.toNat [], [100, 115]) else (wordW, [119])).2)]), x6, x7, x8] S := by
  simp only [fo3, lits, alu_eq]
  by_cases ho : o = 0
  · by_cases h7 : i < 7
    · have := alu_at hi h7
      simp [ho, h7, this]
    · simp [ho, h7]
  · simp [ho]
theorem fo6_ok (d s : Int) (g : List Nat) :
    fo6 [x0, x1, some (.int d), some (.int s), x4, x5, x6, some (.str (tx g)), x8] S
      = .nx [x0, x1, some (.int d), some (.int s), x4, x5, x6, some (.str (tx g)), some (.bl ((decide (0 < d) && !decide (100 ∈ g)) || (decide (0 < s) && !decide (115 ∈ g))))] S := by
  simp only [fo6, lits]
  by_cases hd : 0 < d <;> by_cases hs : 0 < s <;> by_cases h1 : 100 ∈ g <;> by_cases h2 : 115 ∈ g <;> simp [hd, hs, h1, h2]
theorem fo7_ok (o i : Int) (g : List Nat) (b : Bool) :
    fo7 [x0, some (.int o), x2, x3, some (.int i), x5, x6, some (.str (tx g)), some (.bl b)] S
      = .nx [x0, some (.int o), x2, x3, some (.int i), x5, x6, some (.str (tx g)), some (.bl (b || (decide (0 < o) && decide (0 < i) && !decide (110 ∈ g) && !decide (112 ∈ g))))] S := by
  simp only [fo7, lits]
  by_cases hd : 0 < o <;> by_cases hs : 0 < i <;> by_cases h1 : 110 ∈ g <;> by_cases h2 : 112 ∈ g <;> simp [hd, hs, h1, h2]
end
theorem form_ok {n : Int} (h0 : 0 ≤ n) (h : n < 65536) (S : Sto) : m_form_of [.int n] S = .ok (.tup [.str (tx (formP n).1), .str (tx (formP n).2)]) S := by
  have p := parts_ok h0 h ([] :: S)
  have il := iP_lim n
  have e1 : fo1 [some (.int n), none, none, none, none, none, none, none, none] ([] :: S) = .nx [some (.int n), some (.int (oP n)), some (.int (dP n)), some (.int (sP n)), some (.int (iP n)), none, none, none, none] ([] :: S) := by simp [fo1, p]
  have e2 : fo2 [some (.int n), some (.int (oP n)), some (.int (dP n)), some (.int (sP n)), some (.int (iP n)), none, none, none, none] ([] :: S) = .nx [some (.int n), some (.int (oP n)), some (.int (dP n)), some (.int (sP n)), some (.int (iP n)), some (.tup [.str (tx wordW), .str (tx [119])]), none, none, none] ([] :: S) := by
    simp only [fo2, lits, wordW]; simp
  have e3 := fo3_ok (some (.int n)) (some (.int (dP n))) (some (.int (sP n))) none none none ([] :: S) (oP n) (iP n) il.1
  obtain ⟨y, L⟩ := pick_loop (oP n) (some (.int n)) none (some (.int (dP n))) (some (.int (sP n))) (some (.int (iP n))) none none ([] :: S) F (if oP n = 0 ∧ iP n < 7 then (aluL.getD (iP n).toNat [], [100, 115]) else (wordW, [119])) none F_self
  have hk : (t_FORMS.map fun p => D.str p.1) = F.map fun e => D.str (tx e.1) := by rw [forms_eq]; rfl
  rw [← hk] at L
  have bd : pickF (oP n) F (if oP n = 0 ∧ iP n < 7 then (aluL.getD (iP n).toNat [], [100, 115]) else (wordW, [119])) = baseP (oP n) (iP n) := rfl
  rw [bd] at L
  have fp : formP n = if spareP (oP n) (dP n) (sP n) (iP n) (baseP (oP n) (iP n)).2 then (wordW, [119]) else baseP (oP n) (iP n) := rfl
  generalize (if oP n = 0 ∧ iP n < 7 then (aluL.getD (iP n).toNat [], [100, 115]) else (wordW, [119])) = q at *
  rcases hb : baseP (oP n) (iP n) with ⟨w, g⟩
  rw [hb] at L fp
  have e4 : fo4 [some (.int n), some (.int (oP n)), some (.int (dP n)), some (.int (sP n)), some (.int (iP n)), some (.tup [.str (tx q.1), .str (tx q.2)]), none, none, none] ([] :: S) = .nx [some (.int n), some (.int (oP n)), some (.int (dP n)), some (.int (sP n)), some (.int (iP n)), some (.tup [.str (tx w), .str (tx g)]), y, none, none] ([] :: S) := by
    simp only [fo4, cFor_eq, ciTab_eq, RSt.of_ok]; exact L
  have e5 : fo5 [some (.int n), some (.int (oP n)), some (.int (dP n)), some (.int (sP n)), some (.int (iP n)), some (.tup [.str (tx w), .str (tx g)]), y, none, none] ([] :: S) = .nx [some (.int n), some (.int (oP n)), some (.int (dP n)), some (.int (sP n)), some (.int (iP n)), some (.tup [.str (tx w), .str (tx g)]), y, some (.str (tx g)), none] ([] :: S) := by
    simp [fo5, atI, ixN]
  have e6 := fo6_ok (some (.int n)) (some (.int (oP n))) (some (.int (iP n))) (some (.tup [.str (tx w), .str (tx g)])) y none ([] :: S) (dP n) (sP n) g
  have e7 := fo7_ok (some (.int n)) (some (.int (dP n))) (some (.int (sP n))) (some (.tup [.str (tx w), .str (tx g)])) y ([] :: S) (oP n) (iP n) g ((decide (0 < dP n) && !decide (100 ∈ g)) || (decide (0 < sP n) && !decide (115 ∈ g)))
  have sp : spareP (oP n) (dP n) (sP n) (iP n) g = ((decide (0 < dP n) && !decide (100 ∈ g)) || (decide (0 < sP n) && !decide (115 ∈ g)) || (decide (0 < oP n) && decide (0 < iP n) && !decide (110 ∈ g) && !decide (112 ∈ g))) := rfl
  rw [← sp] at e7
  simp only at fp
  have e8 : fo8 [some (.int n), some (.int (oP n)), some (.int (dP n)), some (.int (sP n)), some (.int (iP n)), some (.tup [.str (tx w), .str (tx g)]), y, some (.str (tx g)), some (.bl (spareP (oP n) (dP n) (sP n) (iP n) g))] ([] :: S) = .ret (.tup [.str (tx (formP n).1), .str (tx (formP n).2)]) ([] :: S) := by
    simp only [fo8, lits]
    rw [fp]
    cases spareP (oP n) (dP n) (sP n) (iP n) g <;> simp [wordW]
  show runF 9 c_form_of _ _ = _
  rw [runF_out, c_form_of_eq]
  simp only [List.map_cons, List.map_nil, List.length_cons, List.length_nil, List.replicate, List.cons_append, List.nil_append, Nat.reduceAdd, Nat.reduceSub, cSeq_eq, e1, e2, e3, e4, e5, e6, e7, e8, RSt.andThen_nx, outF_ret, leave_nil]
end K26

namespace K26
open MP PySem L2
/-! ### the tape -/
def T (i q : Int) (rest : List O) : List O := .lst [.int i, .int q] :: rest
theorem lookB : ∀ (fr : List (List O)) (t : List O) (j : Nat), look (fr ++ [t]) 0 j = t[j]?
  | [], t, j => rfl
  | r :: fr, t, j => by
    show (if 0 = (fr ++ [t]).length then r[j]? else look (fr ++ [t]) 0 j) = _
    rw [if_neg (by simp), lookB fr t j]
theorem putB : ∀ (fr : List (List O)) (t : List O) (j : Nat) (o : O), put (fr ++ [t]) 0 j o = fr ++ [t.set j o]
  | [], t, j, o => rfl
  | r :: fr, t, j, o => by
    show (if 0 = (fr ++ [t]).length then r.set j o :: (fr ++ [t]) else r :: put (fr ++ [t]) 0 j o) = _
    rw [if_neg (by simp), putB fr t j o]; rfl
theorem lookB' (r : List O) (fr : List (List O)) (t : List O) (j : Nat) : look (r :: (fr ++ [t])) 0 j = t[j]? := lookB (r :: fr) t j
theorem putB' (r : List O) (fr : List (List O)) (t : List O) (j : Nat) (o : O) : put (r :: (fr ++ [t])) 0 j o = r :: (fr ++ [t.set j o]) := putB (r :: fr) t j o
structure StOk (i q : Int) : Prop where
  i0 : 0 ≤ i
  q0 : 0 ≤ q
theorem draw_ok {ns : List Int} {i q size : Int} (fr : List (List O)) (rest : List O) (t : StOk i q) (hm : 0 < size ∧ size < 1073741824) :
    ∃ r i' q', StOk i' q' ∧ 0 ≤ r ∧ r < size ∧ m__law_draw [.ref 0 0, .rol (ns.map D.int), .int size] (fr ++ [T i q rest]) = .ok (.int r) (fr ++ [T i' q' rest]) := by
  obtain ⟨hi, hq⟩ := t
  have hmod : ∀ x : Int, 0 ≤ x % size ∧ x % size < size := fun x => ⟨Int.emod_nonneg _ (by omega), Int.emod_lt_of_pos _ hm.1⟩
  by_cases h0 : q = 0
  · subst h0
    by_cases hn : 0 < (ns.length : Int)
    · have hk0 : 0 ≤ i % (ns.length : Int) := Int.emod_nonneg _ (by omega)
      have hk1 : i % (ns.length : Int) < ns.length := Int.emod_lt_of_pos _ hn
      generalize hk : i % (ns.length : Int) = k at *
      obtain ⟨k, rfl⟩ : ∃ m : Nat, k = m := ⟨k.toNat, by omega⟩
      have hkl : k < ns.length := by omega
      have hn' : 0 < ns.length := by omega
      by_cases hc : ns[k] < 0
      · by_cases hb1 : 1000000000000000000 ≤ 1 - 2 * ns[k]
        · by_cases hb2 : i < ns.length
          · refine ⟨_, _, _, ?_, ?_, ?_, by simp [m__law_draw, c__law_draw, runF_eq, T, lookB', atI_nn, hm, ixN, D.les, D.le, putB', hn', hk, hc, hkl, hb1, hb2]; first | exact ⟨rfl, rfl, rfl⟩ | exact ⟨rfl, rfl⟩ | rfl⟩
            · exact ⟨by omega, Int.ediv_nonneg (by omega) (by omega)⟩
            · exact (hmod _).1
            · exact (hmod _).2
          · refine ⟨_, _, _, ?_, ?_, ?_, by simp [m__law_draw, c__law_draw, runF_eq, T, lookB', atI_nn, hm, ixN, D.les, D.le, putB', hn', hk, hc, hkl, hb1, hb2]; first | exact ⟨rfl, rfl, rfl⟩ | exact ⟨rfl, rfl⟩ | rfl⟩
            · exact ⟨by omega, Int.ediv_nonneg (Int.emod_nonneg _ (by decide)) (by omega)⟩
            · exact (hmod _).1
            · exact (hmod _).2
        · refine ⟨_, _, _, ?_, ?_, ?_, by simp [m__law_draw, c__law_draw, runF_eq, T, lookB', atI_nn, hm, ixN, D.les, D.le, putB', hn', hk, hc, hkl, hb1]; first | exact ⟨rfl, rfl, rfl⟩ | exact ⟨rfl, rfl⟩ | rfl⟩
          · exact ⟨by omega, Int.ediv_nonneg (Int.emod_nonneg _ (by decide)) (by omega)⟩
          · exact (hmod _).1
          · exact (hmod _).2
      · by_cases hb1 : 1000000000000000000 ≤ ns[k]
        · by_cases hb2 : i < ns.length
          · refine ⟨_, _, _, ?_, ?_, ?_, by simp [m__law_draw, c__law_draw, runF_eq, T, lookB', atI_nn, hm, ixN, D.les, D.le, putB', hn', hk, hc, hkl, hb1, hb2]; first | exact ⟨rfl, rfl, rfl⟩ | exact ⟨rfl, rfl⟩ | rfl⟩
            · exact ⟨by omega, Int.ediv_nonneg (by omega) (by omega)⟩
            · exact (hmod _).1
            · exact (hmod _).2
          · refine ⟨_, _, _, ?_, ?_, ?_, by simp [m__law_draw, c__law_draw, runF_eq, T, lookB', atI_nn, hm, ixN, D.les, D.le, putB', hn', hk, hc, hkl, hb1, hb2]; first | exact ⟨rfl, rfl, rfl⟩ | exact ⟨rfl, rfl⟩ | rfl⟩
            · exact ⟨by omega, Int.ediv_nonneg (Int.emod_nonneg _ (by decide)) (by omega)⟩
            · exact (hmod _).1
            · exact (hmod _).2
        · refine ⟨_, _, _, ?_, ?_, ?_, by simp [m__law_draw, c__law_draw, runF_eq, T, lookB', atI_nn, hm, ixN, D.les, D.le, putB', hn', hk, hc, hkl, hb1]; first | exact ⟨rfl, rfl, rfl⟩ | exact ⟨rfl, rfl⟩ | rfl⟩
          · exact ⟨by omega, Int.ediv_nonneg (Int.emod_nonneg _ (by decide)) (by omega)⟩
          · exact (hmod _).1
          · exact (hmod _).2
    · obtain rfl : ns = [] := List.length_eq_zero_iff.mp (by omega)
      refine ⟨_, _, _, ?_, ?_, ?_, by simp [m__law_draw, c__law_draw, runF_eq, T, lookB', atI_nn, hm, ixN, D.les, D.le, putB']; first | exact ⟨rfl, rfl, rfl⟩ | exact ⟨rfl, rfl⟩ | rfl⟩
      · exact ⟨by omega, Int.ediv_nonneg (Int.emod_nonneg _ (by decide)) (by omega)⟩
      · exact (hmod _).1
      · exact (hmod _).2
  · refine ⟨_, _, _, ?_, ?_, ?_, by simp [m__law_draw, c__law_draw, runF_eq, T, lookB', atI_nn, h0, hm, ixN, D.les, D.le, putB']; first | exact ⟨rfl, rfl, rfl⟩ | exact ⟨rfl, rfl⟩ | rfl⟩
    · exact ⟨by omega, Int.ediv_nonneg hq (by omega)⟩
    · exact (hmod _).1
    · exact (hmod _).2
end K26

namespace K26
open MP PySem L2
theorem laid2 {o d s i : Int} (h0 : 0 ≤ o ∧ o < 16) (h1 : 0 ≤ d ∧ d < 4) (h2 : 0 ≤ s ∧ s < 4) (h3 : 0 ≤ i ∧ i < 256) : Builtin.bitOr (Builtin.bitOr (Builtin.bitOr (o * 4096) (d * 1024)) (s * 256)) i = o * 4096 + d * 1024 + s * 256 + i := by
  have := laid (n := o * 4096 + d * 1024 + s * 256 + i) (by omega) (by omega)
  rw [show oP (o * 4096 + d * 1024 + s * 256 + i) = o by unfold oP; omega, show dP (o * 4096 + d * 1024 + s * 256 + i) = d by unfold dP; omega, show sP (o * 4096 + d * 1024 + s * 256 + i) = s by unfold sP; omega, show iP (o * 4096 + d * 1024 + s * 256 + i) = i by unfold iP; omega] at this
  exact this
theorem instrD_ok {ns : List Int} {i q : Int} (fr : List (List O)) (rest : List O) (t : StOk i q) : ∃ n i' q', StOk i' q' ∧ 0 ≤ n ∧ n < 65536 ∧
    m__law_instr [.ref 0 0, .rol (ns.map D.int), .int 15] (fr ++ [T i q rest]) = .ok (.int n) (fr ++ [T i' q' rest]) := by
  obtain ⟨o, i1, q1, t1, o0, o1, e1⟩ := draw_ok (ns := ns) (size := 16) ([] :: fr) rest t (by decide)
  obtain ⟨a, i2, q2, t2, a0, a1, e2⟩ := draw_ok (ns := ns) (size := 8) ([] :: fr) rest t1 (by decide)
  obtain ⟨b, i3, q3, t3, b0, b1, e3⟩ := draw_ok (ns := ns) (size := 8) ([] :: fr) rest t2 (by decide)
  obtain ⟨c, i4, q4, t4, c0, c1, e4⟩ := draw_ok (ns := ns) (size := 256) ([] :: fr) rest t3 (by decide)
  obtain ⟨k, i5, q5, t5, k0, k1, e5⟩ := draw_ok (ns := ns) (size := 4) ([] :: fr) rest t4 (by decide)
  obtain ⟨d, i6, q6, t6, d0, d1, e6⟩ := draw_ok (ns := ns) (size := 4) ([] :: fr) rest t5 (by decide)
  obtain ⟨s, i7, q7, t7, s0, s1, e7⟩ := draw_ok (ns := ns) (size := 4) ([] :: fr) rest t6 (by decide)
  simp only [List.cons_append] at e1 e2 e3 e4 e5 e6 e7
  obtain ⟨m, m0, m1, hm⟩ : ∃ m : Int, 0 ≤ m ∧ m < 256 ∧ atI [D.int a, .int b, .int c, .int 255] k = some (.int m) := by
    have : k = 0 ∨ k = 1 ∨ k = 2 ∨ k = 3 := by omega
    rcases this with rfl | rfl | rfl | rfl
    · exact ⟨a, a0, by omega, rfl⟩
    · exact ⟨b, b0, by omega, rfl⟩
    · exact ⟨c, c0, by omega, rfl⟩
    · exact ⟨255, by decide, by decide, rfl⟩
  have l := laid2 ⟨o0, o1⟩ ⟨d0, d1⟩ ⟨s0, s1⟩ ⟨m0, m1⟩
  have n0 := small ⟨o0, o1⟩ (by decide)
  have n1 := small ⟨d0, d1⟩ (by decide)
  have n2 := small ⟨s0, s1⟩ (by decide)
  refine ⟨o * 4096 + d * 1024 + s * 256 + m, i7, q7, t7, by omega, by omega, ?_⟩
  show runF 5 c__law_instr _ _ = _
  simp only [c__law_instr, runF_eq]
  simp [e1, e2, e3, e4, e5, e6, e7, hm, n0, n1, n2, l]
/-- within 16 bits -/
theorem bits16 {n y : Int} (h0 : 0 ≤ n) (h : n < 65536) (m : Nat) (hy0 : 0 ≤ y) (hy : y < 65536) : 0 ≤ Builtin.bitOr (Builtin.bitAnd n (m : Int)) y ∧ Builtin.bitOr (Builtin.bitAnd n (m : Int)) y < 65536 := by
  obtain ⟨n, rfl⟩ : ∃ k : Nat, n = k := ⟨n.toNat, by omega⟩
  obtain ⟨y, rfl⟩ : ∃ k : Nat, y = k := ⟨y.toNat, by omega⟩
  rw [bitAnd_nat, bitOr_nat]
  have h1 : n &&& m ≤ n := Nat.and_le_left
  have h2 := Nat.or_lt_two_pow (x := n &&& m) (y := y) (n := 16) (by omega) (by omega)
  omega
theorem and16 {n : Int} (h0 : 0 ≤ n) (h : n < 65536) (m : Nat) : 0 ≤ Builtin.bitAnd n (m : Int) ∧ Builtin.bitAnd n (m : Int) < 65536 := by
  obtain ⟨n, rfl⟩ : ∃ k : Nat, n = k := ⟨n.toNat, by omega⟩
  rw [bitAnd_nat]
  have h1 : n &&& m ≤ n := Nat.and_le_left
  omega
end K26

namespace K26
open MP PySem L2
/-! ### rows of text -/
def nT (i : Int) : List Nat := TL.numL i.toNat
theorem nT_str {i : Int} (h : 0 ≤ i) : Str.ofString i.repr = tx (nT i) := by
  show Str.ofString (toString i) = tx (nT i)
  obtain ⟨k, rfl⟩ : ∃ k : Nat, i = k := ⟨i.toNat, by omega⟩
  have e : (Str.ofString (toString (k : Int))).cps.toList = TL.numL k := TL.tl_num k
  have e2 : Str.ofString (toString (k : Int)) = tx (Str.ofString (toString (k : Int))).cps.toList := (SX.S_tl _).symm
  rw [e2, e]; rfl
theorem nT_len {i : Int} (h : i < 65536) : (nT i).length ≤ 5 := TL.numL_len (by decide) (show i.toNat < 10 ^ 5 by omega)
theorem log16 {i : Int} (h0 : 0 ≤ i) (h : i < 65536) : i.natAbs.log2 < 1920 := by
  by_cases z : i.natAbs = 0
  · rw [z]; decide
  · rw [Nat.log2_lt z]
    exact Nat.lt_trans (show i.natAbs < 2 ^ 16 by omega) (by decide +kernel)
def partT (n : Int) (c : Nat) : List Nat := if c = 100 then 114 :: nT (dP n) else if c = 115 then 114 :: nT (sP n) else if c = 119 then nT n else nT (iP n)
def rowW (n : Int) : List (List Nat) := (formP n).1 :: (formP n).2.map (partT n)
def rowT (n : Int) : List Nat := TL.joinL [32] (rowW n)
theorem pick_in (o : Int) : ∀ (f : List (List Nat × Int × List Nat)) (p : List Nat × List Nat), pickF o f p = p ∨ ∃ e ∈ f, pickF o f p = (e.1, e.2.2)
  | [], p => .inl rfl
  | e :: f, p => by
    rw [pickF]
    rcases pick_in o f (if e.2.1 = o then (e.1, e.2.2) else p) with h | ⟨g, hg, h⟩
    · rw [h]
      split
      · exact .inr ⟨e, List.mem_cons_self, rfl⟩
      · exact .inl rfl
    · exact .inr ⟨g, List.mem_cons_of_mem _ hg, h⟩
def okG (g : List Nat) : Bool := g.all (fun c => decide (c = 100 ∨ c = 115 ∨ c = 110 ∨ c = 112 ∨ c = 119)) && decide (g.length ≤ 3)
def okW (w : List Nat) : Bool := decide (w.length ≤ 5) && w.all (fun c => decide (97 ≤ c ∧ c ≤ 122)) && decide (w ≠ [])
theorem form_in (n : Int) (hi : 0 ≤ iP n) : okW (formP n).1 = true ∧ okG (formP n).2 = true := by
  unfold formP
  split
  · exact ⟨rfl, rfl⟩
  · unfold baseP
    rcases pick_in (oP n) F (if oP n = 0 ∧ iP n < 7 then (aluL.getD (iP n).toNat [], [100, 115]) else (wordW, [119])) with h | ⟨e, he, h⟩
    · rw [h]
      split
      · rename_i q
        refine ⟨?_, rfl⟩
        have : (iP n).toNat = 0 ∨ (iP n).toNat = 1 ∨ (iP n).toNat = 2 ∨ (iP n).toNat = 3 ∨ (iP n).toNat = 4 ∨ (iP n).toNat = 5 ∨ (iP n).toNat = 6 := by omega
        rcases this with h | h | h | h | h | h | h <;> rw [h] <;> rfl
      · exact ⟨rfl, rfl⟩
    · rw [h]
      have : ∀ e ∈ F, okW e.1 = true ∧ okG e.2.2 = true := by decide +kernel
      exact this e he
theorem part_len {n : Int} (h : n < 65536) (c : Nat) : (partT n c).length ≤ 6 := by
  have h1 := nT_len (i := dP n) (by have := dP_lim n; omega)
  have h2 := nT_len (i := sP n) (by have := sP_lim n; omega)
  have h3 := nT_len (i := iP n) (by have := iP_lim n; omega)
  have h4 := nT_len h
  unfold partT
  split
  · simp; omega
  · split
    · simp; omega
    · split <;> omega
theorem told_at (n : Int) (v1 v2 v3 v4 : D) (c : Nat) (hc : c = 100 ∨ c = 115 ∨ c = 110 ∨ c = 112 ∨ c = 119) : 
    getA [.inr (tx [100]), .inr (tx [115]), .inr (tx [110]), .inr (tx [112]), .inr (tx [119])] [v1, v2, v3, v3, v4] (.inr (tx [c])) = some (if c = 100 then v1 else if c = 115 then v2 else if c = 119 then v4 else v3) := by
  rcases hc with rfl | rfl | rfl | rfl | rfl <;> simp [getA]
theorem text_ok {n : Int} (h0 : 0 ≤ n) (h : n < 65536) (S : Sto) : m_instruction_text [.int n] S = .ok (.str (tx (rowT n))) S := by
  have p := parts_ok h0 h ([] :: S)
  have f := form_ok h0 h ([] :: S)
  have dl := dP_lim n
  have sl := sP_lim n
  have il := iP_lim n
  obtain ⟨fw, fg⟩ := form_in n il.1
  have ed := nT_str dl.1
  have es := nT_str sl.1
  have ei := nT_str il.1
  have en := nT_str h0
  have kd := log16 dl.1 (by omega)
  have ks := log16 sl.1 (by omega)
  have ki := log16 il.1 (by omega)
  have kn := log16 h0 h
  have e1 : it1 [some (.int n), none, none, none, none, none, none, none, none] ([] :: S) = .nx [some (.int n), some (.int (oP n)), some (.int (dP n)), some (.int (sP n)), some (.int (iP n)), none, none, none, none] ([] :: S) := by simp [it1, p]
  have e2 : it2 [some (.int n), some (.int (oP n)), some (.int (dP n)), some (.int (sP n)), some (.int (iP n)), none, none, none, none] ([] :: S) = .nx [some (.int n), some (.int (oP n)), some (.int (dP n)), some (.int (sP n)), some (.int (iP n)), some (.str (tx (formP n).1)), some (.str (tx (formP n).2)), none, none] ([] :: S) := by simp [it2, f]
  rcases hf : formP n with ⟨w, g⟩
  rw [hf] at fw fg e2
  simp only at fw fg e2
  have e3 : it3 [some (.int n), some (.int (oP n)), some (.int (dP n)), some (.int (sP n)), some (.int (iP n)), some (.str (tx w)), some (.str (tx g)), none, none] ([] :: S) = .nx [some (.int n), some (.int (oP n)), some (.int (dP n)), some (.int (sP n)), some (.int (iP n)), some (.str (tx w)), some (.str (tx g)),
      some (.box (.dK [.inr (tx [100]), .inr (tx [115]), .inr (tx [110]), .inr (tx [112]), .inr (tx [119])]) [.str (tx (114 :: nT (dP n))), .str (tx (114 :: nT (sP n))), .str (tx (nT (iP n))), .str (tx (nT (iP n))), .str (tx (nT n))]), none] ([] :: S) := by
    have l1 := nT_len (i := dP n) (by omega)
    have l2 := nT_len (i := sP n) (by omega)
    have z1 : 1 + (nT (dP n)).length ≤ 16000000 := by omega
    have z2 : 1 + (nT (sP n)).length ≤ 16000000 := by omega
    have z3 : (nT (dP n)).length + 1 ≤ 16000000 := by omega
    have z4 : (nT (sP n)).length + 1 ≤ 16000000 := by omega
    simp only [it3, lits]
    simp [ed, es, ei, en, kd, ks, ki, kn, mkD, putKs, putA, hasK, z1, z2, z3, z4]
  have L := lc_map 8 (cB gItem (cV 7) (cV 8)) [some (.int n), some (.int (oP n)), some (.int (dP n)), some (.int (sP n)), some (.int (iP n)), some (.str (tx w)), some (.str (tx g)),
      some (.box (.dK [.inr (tx [100]), .inr (tx [115]), .inr (tx [110]), .inr (tx [112]), .inr (tx [119])]) [.str (tx (114 :: nT (dP n))), .str (tx (114 :: nT (sP n))), .str (tx (nT (iP n))), .str (tx (nT (iP n))), .str (tx (nT n))]), none] ([] :: S)
    (fun d => match d with | .str y => .str (tx (partT n (y.cps.getD 0 0))) | d => d) (g.map fun c => D.str (tx [c])) (fun d hd => by
      obtain ⟨c, hc, rfl⟩ := List.mem_map.mp hd
      unfold okG at fg
      simp only [Bool.and_eq_true, List.all_eq_true, decide_eq_true_eq] at fg
      have t := told_at n (.str (tx (114 :: nT (dP n)))) (.str (tx (114 :: nT (sP n)))) (.str (tx (nT (iP n)))) (.str (tx (nT n))) c (fg.1 c hc)
      simp [t]
      show _ = D.str (tx (partT n c))
      unfold partT
      split
      · rfl
      · split
        · rfl
        · split <;> rfl)
  rw [List.map_map] at L
  have L2 : lcL (tgN 8) ctYes (cB gItem (cV 7) (cV 8)) [some (.int n), some (.int (oP n)), some (.int (dP n)), some (.int (sP n)), some (.int (iP n)), some (.str (tx w)), some (.str (tx g)),
      some (.box (.dK [.inr (tx [100]), .inr (tx [115]), .inr (tx [110]), .inr (tx [112]), .inr (tx [119])]) [.str (tx (114 :: nT (dP n))), .str (tx (114 :: nT (sP n))), .str (tx (nT (iP n))), .str (tx (nT (iP n))), .str (tx (nT n))]), none] (g.map fun c => D.str (tx [c])) ([] :: S) = .ok (g.map fun c => D.str (tx (partT n c))) ([] :: S) := L
  have gl : g.length ≤ 3 := by unfold okG at fg; simp only [Bool.and_eq_true, decide_eq_true_eq] at fg; exact fg.2
  have wl : w.length ≤ 5 := by unfold okW at fw; simp only [Bool.and_eq_true, decide_eq_true_eq] at fw; exact fw.1.1
  have J := gJoin_tx [32] (rowW n) ([] :: S) (by
    unfold rowW
    rw [hf]
    have : ((g.map (partT n)).map List.length).sum ≤ g.length * 6 := by
      clear L L2 e1 e2 e3 fg gl hf
      induction g with
      | nil => simp
      | cons c g ih => have := part_len h c; simp at ih ⊢; omega
    simp only [List.map_cons, List.sum_cons, List.length_cons, List.length_map, List.length_nil]
    omega)
  unfold rowW at J
  rw [hf] at J
  have e4 : it4 [some (.int n), some (.int (oP n)), some (.int (dP n)), some (.int (sP n)), some (.int (iP n)), some (.str (tx w)), some (.str (tx g)),
      some (.box (.dK [.inr (tx [100]), .inr (tx [115]), .inr (tx [110]), .inr (tx [112]), .inr (tx [119])]) [.str (tx (114 :: nT (dP n))), .str (tx (114 :: nT (sP n))), .str (tx (nT (iP n))), .str (tx (nT (iP n))), .str (tx (nT n))]), none] ([] :: S) = .ret (.str (tx (rowT n))) ([] :: S) := by
    have gl' : g.length ≤ 16000000 := by omega
    have gl2 : 1 + g.length ≤ 16000000 := by omega
    have J2 : gJoin (.str (tx [32])) [.lst (.str (tx w) :: g.map fun c => D.str (tx (partT n c)))] ([] :: S) = .ok (.str (tx (rowT n))) ([] :: S) := by
      rw [List.map_cons, List.map_map] at J
      unfold rowT rowW
      rw [hf]
      exact J
    simp only [it4, lits]
    simp [L2, gl', gl2, J2]
  show runF 9 c_instruction_text _ _ = _
  rw [runF_out, c_instruction_text_eq]
  simp only [List.map_cons, List.map_nil, List.length_cons, List.length_nil, List.replicate, List.cons_append, List.nil_append, Nat.reduceAdd, Nat.reduceSub, cSeq_eq, e1, e2, e3, e4, RSt.andThen_nx, outF_ret, leave_nil]
end K26

namespace K26
open MP PySem L2
/-! ### reading words -/
def isFig (c : Nat) : Bool := decide (c ∈ [48, 49, 50, 51, 52, 53, 54, 55, 56, 57])
def digL (w : List Nat) : Bool := w.all isFig
def numB (w : List Nat) (lim : Int) : Option Int :=
  if 0 < w.length ∧ w.length ≤ 5 ∧ digL w = true ∧ ¬ (w.take 1 = [48] ∧ w ≠ [48]) ∧ ((NumText.digitsVal w : Nat) : Int) < lim then some ((NumText.digitsVal w : Nat) : Int) else none
def oI : Option Int → D
  | some i => .int i
  | none => .non
theorem figs_eq : k_FIGURES = .str (tx [48, 49, 50, 51, 52, 53, 54, 55, 56, 57]) := by unfold k_FIGURES; simp only [lits]
theorem digL_digits {w : List Nat} (h : digL w = true) : NumText.AllDigits w := by
  intro c hc
  have := List.all_eq_true.mp h c hc
  simp [isFig] at this
  omega
theorem below_ok (w : List Nat) (lim : Int) (hw : w.length ≤ 16000000) (S : Sto) : m_number_below [.str (tx w), .int lim] S = .ok (oI (numB w lim)) S := by
  have L := lc_signs 2 (cB gMem (cV 2) (cK k_FIGURES)) [some (.str (tx w)), some (.int lim), none] ([] :: S) (fun c => .bl (isFig c)) w fun c hc => by
    rw [figs_eq]; simp [isFig]
  have A : gAll [.lst (w.map fun c => D.bl (isFig c))] ([] :: S) = .ok (.bl (digL w)) ([] :: S) := all_bls isFig w ([] :: S)
  show runF 3 c_number_below _ _ = _
  rw [runF_out, c_number_below_eq]
  simp only [List.map_cons, List.map_nil, List.length_cons, List.length_nil, List.replicate, List.cons_append, List.nil_append, Nat.reduceAdd, Nat.reduceSub, cSeq_eq]
  simp only [nb1, nb2, lits]
  by_cases h1 : 0 < w.length
  case neg =>
    obtain rfl : w = [] := List.length_eq_zero_iff.mp (by omega)
    simp [numB, oI]
  by_cases h2 : w.length ≤ 5
  case neg =>
    have : numB w lim = none := if_neg fun e => h2 e.2.1
    have h5 : (5 : Int) < w.length := by omega
    simp [hw, h1, h5, this, oI]
  have h5 : ¬ (5 : Int) < w.length := by omega
  by_cases h3 : digL w = true
  case neg =>
    have : numB w lim = none := if_neg fun e => h3 e.2.2.1
    have h3' : digL w = false := by simpa using h3
    simp [hw, h1, h5, L, A, h3', this, oI]
  have it := intText_digits (x := tx w) (digL_digits h3) (fun e => by have e' : w = [] := e; rw [e'] at h1; simp at h1) (by rw [tx_len]; omega)
  have gi := fun S => gIntA_s S (tx w) it (by rw [tx_len]; omega)
  obtain ⟨c, r, e⟩ : ∃ c r, w = c :: r := by cases w with | nil => simp at h1 | cons c r => exact ⟨c, r, rfl⟩
  have at0 : atI w 0 = some c := by rw [e]; exact atI_0 c r
  have hc : w.take 1 = [48] ↔ c = 48 := by rw [e]; simp
  have tl : (tx w).cps.toList = w := rfl
  rw [tl] at gi
  by_cases h4 : c = 48
  · by_cases h6 : w = [48]
    · by_cases h7 : ((NumText.digitsVal w : Nat) : Int) < lim
      · have : numB w lim = some ((NumText.digitsVal w : Nat) : Int) := if_pos ⟨h1, h2, h3, fun e => e.2 h6, h7⟩
        have h8 : ¬ lim ≤ ((NumText.digitsVal w : Nat) : Int) := by omega
        rw [this]
        generalize ((NumText.digitsVal w : Nat) : Int) = v at *
        simp [hw, h1, h5, L, A, h3, at0, h4, eq_true h6, gi, h7, oI]
      · have : numB w lim = none := if_neg fun e => h7 e.2.2.2.2
        rw [this]
        generalize ((NumText.digitsVal w : Nat) : Int) = v at *
        simp [hw, h1, h5, L, A, h3, at0, h4, eq_true h6, gi, h7, oI]
    · have : numB w lim = none := if_neg fun e => e.2.2.2.1 ⟨hc.mpr h4, h6⟩
      simp [hw, h1, h5, L, A, h3, at0, h4, h6, this, oI]
  · by_cases h7 : ((NumText.digitsVal w : Nat) : Int) < lim
    · have : numB w lim = some ((NumText.digitsVal w : Nat) : Int) := if_pos ⟨h1, h2, h3, fun e => h4 (hc.mp e.1), h7⟩
      rw [this]
      generalize ((NumText.digitsVal w : Nat) : Int) = v at *
      simp [hw, h1, h5, L, A, h3, at0, h4, gi, h7, oI]
    · have : numB w lim = none := if_neg fun e => h7 e.2.2.2.2
      rw [this]
      generalize ((NumText.digitsVal w : Nat) : Int) = v at *
      simp [hw, h1, h5, L, A, h3, at0, h4, gi, h7, oI]
end K26

namespace K26
open MP PySem L2
/-! ### parts of rows -/
abbrev Labs := List (List Nat × Int)
def lookL : Labs → List Nat → Option Int
  | [], _ => none
  | p :: r, w => if p.1 = w then some p.2 else lookL r w
abbrev labK (lab : Labs) : List Key := lab.map fun p => .inr (tx p.1)
abbrev labV (lab : Labs) : List D := lab.map fun p => .int p.2
abbrev labD (lab : Labs) : D := .box (.dK (labK lab)) (labV lab)
theorem getA_lab (w : List Nat) : ∀ lab : Labs, getA (labK lab) (labV lab) (.inr (tx w)) = (lookL lab w).map D.int
  | [] => rfl
  | p :: lab => by
    have ih := getA_lab w lab
    show (if (Sum.inr (tx p.1) : Key) = .inr (tx w) then some (D.int p.2) else getA (labK lab) (labV lab) (.inr (tx w))) = _
    rw [ih, lookL]
    by_cases h : p.1 = w
    · simp [h]
    · simp [h]
def partL (w : List Nat) (c : Nat) (lab : Labs) : Option Int :=
  if c = 100 ∨ c = 115 then (if w.take 1 = [114] then numB w.tail 4 else none)
  else if c = 112 then (match lookL lab w with
    | some v => if v < 256 then some v else none
    | none => numB w 256)
  else numB w (if c = 119 then 65536 else 256)
theorem gMem_lab (w : List Nat) (lab : Labs) (S : Sto) : gMem (.str (tx w)) (labD lab) S = .ok (.bl (lookL lab w).isSome) S := by
  have := getA_lab w lab
  show (match (labD lab).dict S with
    | some _ => gDin (.str (tx w)) (labD lab) S
    | none => gIn (.str (tx w)) (labD lab) S) = _
  simp [gDin, this]
theorem part_ok (w : List Nat) (c : Nat) (lab : Labs) (hw : w.length ≤ 16000000) (S : Sto) : m_part_told [.str (tx w), .str (tx [c]), labD lab] S = .ok (oI (partL w c lab)) S := by
  have g := getA_lab w lab
  have gm := gMem_lab w lab
  have b1 := fun S => below_ok w.tail 4 (by rw [List.length_tail]; omega) S
  have b2 := fun l S => below_ok w l hw S
  show runF 3 c_part_told _ _ = _
  rw [runF_out, c_part_told_eq]
  simp only [List.map_cons, List.map_nil, List.length_cons, List.length_nil, List.replicate, List.cons_append, List.nil_append, Nat.reduceAdd, Nat.reduceSub, cSeq_eq]
  simp only [pt1, pt2, pt3, lits]
  unfold partL
  by_cases h1 : 100 = c ∨ 115 = c
  · have h1' : c = 100 ∨ c = 115 := by omega
    rw [if_pos h1']
    by_cases h2 : w.take 1 = [114]
    · simp [h1, h2, hw, b1]
    · simp [h1, h2, hw, oI]
  · have h1' : ¬ (c = 100 ∨ c = 115) := by omega
    rw [if_neg h1']
    by_cases h3 : c = 112
    · cases hl : lookL lab w with
      | none =>
        rw [hl] at gm
        have h4 : ¬ c = 119 := by omega
        simp only [Option.isSome_none] at gm
        simp [h1, h3, gm, b2]
      | some v =>
        rw [hl] at gm g
        simp only [Option.isSome_some, Option.map_some] at gm g
        have gi : ∀ S, gItem (labD lab) (.str (tx w)) S = .ok (.int v) S := fun S => by rw [gItem_box]; simp [g]
        by_cases hv : v < 256
        · simp [h1, h3, gm, gi, hv, oI]
        · simp [h1, h3, gm, gi, hv, oI]
    · by_cases h4 : c = 119
      · simp [h1, h3, h4, b2]
      · simp [h1, h3, h4, b2]
end K26

namespace K26
open MP PySem L2
/-! ### a row is told -/
def aluI (w : List Nat) : Option Int := if w = [97, 100, 100] then some 0 else if w = [115, 117, 98] then some 1 else if w = [97, 110, 100] then some 2 else if w = [111, 114] then some 3 else if w = [120, 111, 114] then some 4 else if w = [108, 101, 115, 115] then some 5 else if w = [115, 97, 109, 101] then some 6 else none
def opL (w : List Nat) : Option (Int × List Nat × Int) := match aluI w with
  | some m => some (0, [100, 115], m)
  | none => match lookF F w with
    | some p => some (p.1, p.2, 0)
    | none => if w = wordW then some (0, [119], 0) else none
abbrev invT (r k : Int) : Exn := ⟨"InvalidText", [("name", .str "InvalidText"), ("place", .tup [.int r, .int k])]⟩
abbrev wsD (ws : List (List Nat)) : D := .lst (ws.map fun w => .str (tx w))
theorem lALU_eq : l_ALU = [D.str (tx [97, 100, 100]), .str (tx [115, 117, 98]), .str (tx [97, 110, 100]), .str (tx [111, 114]), .str (tx [120, 111, 114]), .str (tx [108, 101, 115, 115]), .str (tx [115, 97, 109, 101])] := by unfold l_ALU; simp only [lits]
theorem idx_alu {w : List Nat} {m : Int} (h : aluI w = some m) : ∃ j : Nat, (j : Int) = m ∧ idxS (tx w) [tx [97, 100, 100], tx [115, 117, 98], tx [97, 110, 100], tx [111, 114], tx [120, 111, 114], tx [108, 101, 115, 115], tx [115, 97, 109, 101]] 0 = some j := by
  unfold aluI at h
  repeat' split at h
  all_goals first | (cases h; done) | skip
  all_goals
    rename_i e
    subst e
    cases h
  · exact ⟨0, rfl, by simp [idxS]⟩
  · exact ⟨1, rfl, by simp [idxS]⟩
  · exact ⟨2, rfl, by simp [idxS]⟩
  · exact ⟨3, rfl, by simp [idxS]⟩
  · exact ⟨4, rfl, by simp [idxS]⟩
  · exact ⟨5, rfl, by simp [idxS]⟩
  · exact ⟨6, rfl, by simp [idxS]⟩
theorem mem_alu (w : List Nat) (S : Sto) : gMem (.str (tx w)) oA S = .ok (.bl (aluI w).isSome) S := by
  rw [gMem_of S _ _ rfl]
  unfold aluI
  simp
  simp only [eq_comm (b := w)]
  repeat' split
  all_goals simp_all
theorem rt1_ok (row : Int) (w : List Nat) (ws : List (List Nat)) (x2 x3 x4 x5 x6 x7 x8 : Option D) (S : Sto) :
    rt1 [some (.int row), some (wsD (w :: ws)), x2, x3, x4, x5, x6, x7, x8] S = match opL w with
      | some (o, g, m) => .nx [some (.int row), some (wsD (w :: ws)), x2, some (.int o), some (.str (tx g)), some (.int m), x6, x7, x8] S
      | none => .err (invT row 0) [some (.int row), some (wsD (w :: ws)), x2, x3, x4, x5, x6, x7, x8] S := by
  have i0 : ∀ S, gItem (wsD (w :: ws)) (.int 0) S = .ok (.str (tx w)) S := fun S => by
    rw [gItem_of S _ _ (rfl : (wsD (w :: ws)).dict S = none)]
    simp
  have hm : ∀ S, gMem (.str (tx w)) k_ALU S = .ok (.bl (aluI w).isSome) S := fun S => by rw [alu_eq]; exact mem_alu w S
  have tg := tabGet_F w F
  rw [← forms_eq] at tg
  generalize wsD (w :: ws) = W at *
  have kd : ∀ S, k_ALU.dict S = none := fun S => by rw [alu_eq]; rfl
  simp only [rt1, lits, lALU_eq]
  unfold opL
  cases ha : aluI w with
  | some m =>
    rw [ha] at hm
    simp only [Option.isSome_some] at hm
    obtain ⟨j, hj, hx⟩ := idx_alu ha
    simp [i0, hm, hx, hj]
  | none =>
    rw [ha] at hm
    simp only [Option.isSome_none] at hm
    cases hf : lookF F w with
    | some p =>
      rw [hf] at tg
      simp only [Option.map_some] at tg
      have i1 : ∀ (a b : D), atI [a, b] 1 = some b := fun _ _ => rfl
      simp [i0, hm, tg, i1]
    | none =>
      rw [hf] at tg
      simp only [Option.map_none] at tg
      by_cases hw : w = wordW
      · have hw' : (w = [119, 111, 114, 100]) := hw
        simp [i0, hm, tg, eq_true hw, eq_true hw']
      · have hw' : ¬ (w = [119, 111, 114, 100]) := hw
        simp [i0, hm, tg, hw, hw']
/-- what is told so far -/
structure Tell where
  d : Int
  s : Int
  n : Int
  w : Option Int
def Tell.put (t : Tell) (c : Nat) (v : Int) : Tell := if c = 100 then { t with d := v } else if c = 115 then { t with s := v } else if c = 119 then { t with w := some v } else { t with n := v }
def Tell.box (t : Tell) : O := match t.w with
  | none => .box (.dK [.inr (tx [100]), .inr (tx [115]), .inr (tx [110])]) [.int t.d, .int t.s, .int t.n]
  | some v => .box (.dK [.inr (tx [100]), .inr (tx [115]), .inr (tx [110]), .inr (tx [119])]) [.int t.d, .int t.s, .int t.n, .int v]
def tellL (ws : List (List Nat)) (lab : Labs) : List Nat → Nat → Tell → Except Nat Tell
  | [], _, t => .ok t
  | c :: g, j, t => match (ws[j + 1]?).bind (fun w => partL w c lab) with
    | some v => tellL ws lab g (j + 1) (t.put c v)
    | none => .error (j + 1)
def okC (c : Nat) : Prop := c = 100 ∨ c = 115 ∨ c = 110 ∨ c = 112 ∨ c = 119
section
variable (row : Int) (ws : List (List Nat)) (lab : Labs) (x3 x5 : Option D) (S : Sto)
def rtR (g : List Nat) (x7 x8 : Option D) : Ro := [some (.int row), some (wsD ws), some (labD lab), x3, some (.str (tx g)), x5, some (.ref S.length 0), x7, x8]
theorem rt2_ok (m : Int) (g : List Nat) (x7 x8 : Option D) : rt2 [some (.int row), some (wsD ws), some (labD lab), x3, some (.str (tx g)), some (.int m), none, x7, x8] ([] :: S) = .nx (rtR row ws lab x3 (some (.int m)) S g x7 x8) ([(⟨0, 0, m, none⟩ : Tell).box] :: S) := by
  simp only [rt2, lits]
  simp [mkD, putKs, putA, hasK, newAt, D.les, D.le, Tell.box, rtR]
theorem rt3b_ok (g : List Nat) (gl : g.length ≤ 16000000) (hws : ∀ w ∈ ws, w.length ≤ 16000000) (hwl : ws.length ≤ 16000000) (j : Nat) (c : Nat) (hc : okC c) (hg : g[j]? = some c) (t : Tell) (x8 : Option D) :
    ∃ x8', rt3b (rtR row ws lab x3 x5 S g (some (.int j)) x8) ([t.box] :: S) = match (ws[j + 1]?).bind (fun w => partL w c lab) with
      | some v => .nx (rtR row ws lab x3 x5 S g (some (.int j)) x8') ([(t.put c v).box] :: S)
      | none => .err (invT row (j + 1 : Nat)) (rtR row ws lab x3 x5 S g (some (.int j)) x8') ([t.box] :: S) := by
  have ag : atI g (j : Int) = some c := by rw [atI_nn (by omega)]; simpa using hg
  have wl : ∀ S, gLenA [wsD ws] S = .ok (.int ws.length) S := fun S => by
    rw [gLenA_of S (wsD ws) rfl, gLen_l]; simp
  unfold rtR
  cases hw : ws[j + 1]? with
  | none =>
    have hl : ¬ ((j : Int) + 1 < ws.length) := by
      have := List.getElem?_eq_none_iff.mp hw; omega
    refine ⟨some .non, ?_⟩
    simp only [rt3b, lits]
    generalize wsD ws = W at *
    simp [wl, hl]
  | some w =>
    have hl : ((j : Int) + 1 < ws.length) := by
      have := (List.getElem?_eq_some_iff.mp hw).1; omega
    have wi : ∀ S, gItem (wsD ws) (.int ((j : Int) + 1)) S = .ok (.str (tx w)) S := fun S => by
      rw [gItem_of S _ _ rfl, gIx_l, atI_nn (by omega), show ((j : Int) + 1).toNat = j + 1 by omega, List.getElem?_map, hw]
      rfl
    have po := fun S => part_ok w c lab (hws w (List.mem_of_getElem? hw)) S
    refine ⟨some (oI (partL w c lab)), ?_⟩
    simp only [rt3b, lits, Option.bind_some]
    generalize wsD ws = W at *
    generalize labD lab = L at *
    cases hp : partL w c lab with
    | none =>
      rw [hp] at po
      simp [wl, hl, wi, gl, ag, po, oI]
    | some v =>
      rw [hp] at po
      cases hw2 : t.w with
      | none =>
        rcases hc with rfl | rfl | rfl | rfl | rfl <;> simp [wl, hl, wi, gl, ag, po, oI, Tell.box, Tell.put, hw2, putKs, putA, hasK, D.les, D.le, put]
      | some u =>
        rcases hc with rfl | rfl | rfl | rfl | rfl <;> simp [wl, hl, wi, gl, ag, po, oI, Tell.box, Tell.put, hw2, putKs, putA, hasK, D.les, D.le, put]
end
end K26

namespace K26
open MP PySem L2
/-! ### a row that is told whole -/
theorem rngD_succ (lo : Int) (n : Nat) : rngD lo (n + 1) = .int lo :: rngD (lo + 1) n := by
  simp only [rngD, List.range_succ_eq_map, List.map_cons, List.map_map]
  congr 1
  · simp
  · exact List.map_congr_left fun k _ => by
      simp only [Function.comp, Nat.succ_eq_add_one, Int.natCast_add, Int.natCast_one]
      congr 1; omega
theorem gItem_top (ks : List Key) (vs : List D) (r : List O) (S : Sto) (k : Str) : gItem (.ref S.length 0) (.str k) ((.box (.dK ks) vs :: r) :: S) = match getA ks vs (.inr k) with | some d => .ok d ((.box (.dK ks) vs :: r) :: S) | none => .bad := by
  have h : (D.ref S.length 0).dict ((.box (.dK ks) vs :: r) :: S) = some (ks, vs) := by simp [D.dict]
  unfold gItem gDget
  rw [h]
  rfl
theorem rngD_zero (lo : Int) : rngD lo 0 = [] := rfl
section
variable (row : Int) (ws : List (List Nat)) (lab : Labs) (x3 x5 : Option D) (S : Sto)
theorem rt3_good (g : List Nat) (gl : g.length ≤ 16000000) (hg : ∀ c ∈ g, okC c) (hws : ∀ w ∈ ws, w.length ≤ 16000000) (hwl : ws.length ≤ 16000000) :
    ∀ (g2 g1 : List Nat) (t t' : Tell), g = g1 ++ g2 → tellL ws lab g2 g1.length t = .ok t' → ∀ x7 x8, ∃ x7' x8', forL (tgN 7) rt3b (rngD (g1.length : Int) g2.length) (rtR row ws lab x3 x5 S g x7 x8) ([t.box] :: S) = .nx (rtR row ws lab x3 x5 S g x7' x8') ([t'.box] :: S)
  | [], g1, t, t', e, h, x7, x8 => by
    cases h
    exact ⟨x7, x8, rfl⟩
  | c :: g2, g1, t, t', e, h, x7, x8 => by
    rw [tellL] at h
    have hc : c ∈ g := by rw [e]; simp
    have hi : g[g1.length]? = some c := by rw [e]; simp
    obtain ⟨x8', b⟩ := rt3b_ok row ws lab x3 x5 S g gl hws hwl g1.length c (hg c hc) hi t x8
    cases hv : (ws[g1.length + 1]?).bind (fun w => partL w c lab) with
    | none => rw [hv] at h; cases h
    | some v =>
      rw [hv] at h b
      simp only at h b
      have e' : g = (g1 ++ [c]) ++ g2 := by rw [e]; simp
      obtain ⟨y7, y8, ih⟩ := rt3_good g gl hg hws hwl g2 (g1 ++ [c]) (t.put c v) t' e' (by rw [List.length_append, List.length_singleton]; exact h) (some (.int g1.length)) x8'
      refine ⟨y7, y8, ?_⟩
      rw [List.length_cons, rngD_succ]
      refine (forL_nx rfl b).trans ?_
      rw [List.length_append, List.length_singleton] at ih
      exact ih
end
/-- what the told parts come to -/
def wholeT (o : Int) (g : List Nat) (t : Tell) : Option Int := if g = [119] then t.w else
  if (0 ≤ o ∧ o < 16) ∧ (0 ≤ t.d ∧ t.d < 4) ∧ (0 ≤ t.s ∧ t.s < 4) ∧ (0 ≤ t.n ∧ t.n < 256) then some (o * 4096 + t.d * 1024 + t.s * 256 + t.n) else none
theorem told_good (row : Int) (w0 : List Nat) (ws : List (List Nat)) (lab : Labs) (S : Sto) (o m v : Int) (g : List Nat) (t : Tell) (ho : opL w0 = some (o, g, m)) (gl2 : g.length + 1 ≤ 16000000) (hg : ∀ c ∈ g, okC c)
    (hws : ∀ w ∈ w0 :: ws, w.length ≤ 16000000) (hwl : ws.length = g.length) (ht : tellL (w0 :: ws) lab g 0 ⟨0, 0, m, none⟩ = .ok t) (hv : wholeT o g t = some v) :
    m_row_told [.int row, wsD (w0 :: ws), labD lab] S = .ok (.int v) S := by
  have gl : g.length ≤ 16000000 := by omega
  have hwl2 : (w0 :: ws).length ≤ 16000000 := by rw [List.length_cons, hwl]; exact gl2
  have gi : (g.length : Int) ≤ 16000000 := by omega
  have e1 := rt1_ok row w0 ws (some (labD lab)) none none none none none none ([] :: S)
  rw [ho] at e1
  simp only at e1
  have e2 := rt2_ok row (w0 :: ws) lab (some (.int o)) S m g none none
  obtain ⟨y7, y8, e3⟩ := rt3_good row (w0 :: ws) lab (some (.int o)) (some (.int m)) S g gl hg hws hwl2 g [] ⟨0, 0, m, none⟩ t rfl ht none none
  have e3' : rt3 (rtR row (w0 :: ws) lab (some (.int o)) (some (.int m)) S g none none) ([(⟨0, 0, m, none⟩ : Tell).box] :: S) = .nx (rtR row (w0 :: ws) lab (some (.int o)) (some (.int m)) S g y7 y8) ([t.box] :: S) := by
    have : ((([] : List Nat).length : Nat) : Int) = 0 := rfl
    rw [this] at e3
    simp only [rt3, lits]
    unfold rtR at e3 ⊢
    generalize wsD (w0 :: ws) = W at *
    simp [gl, gi, e3]
  have e4 : rt4 (rtR row (w0 :: ws) lab (some (.int o)) (some (.int m)) S g y7 y8) ([t.box] :: S) = .nx (rtR row (w0 :: ws) lab (some (.int o)) (some (.int m)) S g y7 y8) ([t.box] :: S) := by
    have wl : ∀ S, gLenA [wsD (w0 :: ws)] S = .ok (.int (g.length + 1)) S := fun S => by
      rw [gLenA_of S (wsD (w0 :: ws)) rfl, gLen_l]
      have h1 : ws.length + 1 ≤ 16000000 := by omega
      simp [hwl]
    simp only [rt4, lits]
    unfold rtR
    generalize wsD (w0 :: ws) = W at *
    simp [gl, wl]
  have e5 : rt5 (rtR row (w0 :: ws) lab (some (.int o)) (some (.int m)) S g y7 y8) ([t.box] :: S) = .ret (.int v) ([t.box] :: S) := by
    simp only [rt5, lits]
    unfold rtR
    generalize wsD (w0 :: ws) = W at *
    unfold wholeT at hv
    by_cases hw : g = [119]
    · rw [if_pos hw] at hv
      subst hw
      simp [Tell.box, hv, gItem_top, getA]
    · rw [if_neg hw] at hv
      split at hv
      case isFalse => cases hv
      rename_i q
      obtain ⟨q0, q1, q2, q3⟩ := q
      have I := fun S => instr_good q0 q1 q2 q3 S
      rw [laid2 q0 q1 q2 q3] at I
      cases hv
      cases hb : t.w with
      | none => simp [Tell.box, hb, hw, I, gItem_top, getA]
      | some u => simp [Tell.box, hb, hw, I, gItem_top, getA]
  show runF 9 c_row_told _ _ = _
  rw [runF_out, c_row_told_eq]
  simp only [List.map_cons, List.map_nil, List.length_cons, List.length_nil, List.replicate, List.cons_append, List.nil_append, Nat.reduceAdd, Nat.reduceSub, cSeq_eq]
  rw [e1]
  simp only [RSt.andThen_nx, cSeq_eq]
  rw [e2]
  simp only [RSt.andThen_nx, cSeq_eq, e3', e4, e5, outF_ret]
  simp [Tell.box]
end K26

namespace K26
open MP PySem L2
/-! ### the rows of a text -/
theorem leave_lst {n : Nat} {r : List O} {xs : List D} {i : Nat} (S : Sto) (hn : n ≤ 39) (h : r[i]? = some (.lst xs)) (hf : D.flats n xs = true) : leave (.ref S.length i) (r :: S) = .ok (.lst xs) S := by
  cases r with
  | nil => simp at h
  | cons o r =>
    have go : ∀ xs : List D, D.flats n xs = true → mapO (D.fz (o :: r) S.length 39) xs = some xs := by
      intro xs
      induction xs with
      | nil => intro _; rfl
      | cons x xs ih2 =>
        intro hx
        simp only [D.flats, Bool.and_eq_true] at hx
        simp only [mapO, fz_flat (o :: r) S.length hn hx.1, ih2 hx.2]
    have e : D.fz (o :: r) S.length 40 (.ref S.length i) = some (.lst xs) := by
      show (if S.length = S.length then _ else _) = _
      rw [if_pos rfl, h]
      simp only [go xs hf]
    simp only [leave, e]
def rowGood (r : List Nat) (ws : List (List Nat)) : Prop := r.length ≤ 16000000 ∧ ∃ h t, TL.spl [35] 0 [] r = h :: t ∧ h.length ≤ 16000000 ∧ (TL.spl [32] 0 [] h).length ≤ 16000000 ∧ (TL.spl [32] 0 [] h).filter (fun w => decide (w ≠ [])) = ws
def foundD : Nat → List (List (List Nat)) → List D
  | _, [] => []
  | k, ws :: r => if ws = [] then foundD (k + 1) r else .tup [.int k, wsD ws] :: foundD (k + 1) r
theorem wsD_flat {ws : List (List Nat)} (h : ws.length ≤ 16000000) : D.flat 2 (wsD ws) = true := by
  simp only [D.flat, Bool.and_eq_true, decide_eq_true_eq, List.length_map]
  refine ⟨h, flats_of fun d hd => ?_⟩
  obtain ⟨w, _, rfl⟩ := List.mem_map.mp hd
  rfl
theorem fd_flat {k : Nat} {ws : List (List Nat)} (h : ws.length ≤ 16000000) : D.flat 3 (.tup [.int k, wsD ws]) = true := by
  have := wsD_flat h
  show (decide ((2 : Nat) ≤ 16000000) && (true && (D.flat 2 (wsD ws) && true))) = true
  rw [this]
  rfl
theorem found_flat : ∀ {ls : List (List (List Nat))} {k : Nat}, (∀ ws ∈ ls, ws.length ≤ 16000000) → ∀ d ∈ foundD k ls, D.flat 3 d = true
  | [], _, _, d, hd => by simp [foundD] at hd
  | ws :: ls, k, h, d, hd => by
    rw [foundD] at hd
    split at hd
    · exact found_flat (fun w hw => h w (List.mem_cons_of_mem _ hw)) d hd
    · rcases List.mem_cons.mp hd with rfl | hd
      · exact fd_flat (h ws List.mem_cons_self)
      · exact found_flat (fun w hw => h w (List.mem_cons_of_mem _ hw)) d hd
theorem found_len : ∀ (ls : List (List (List Nat))) (k : Nat), (foundD k ls).length ≤ ls.length
  | [], _ => Nat.le_refl _
  | ws :: ls, k => by
    have := found_len ls (k + 1)
    rw [foundD]
    split <;> simp <;> omega
theorem flats_app {n : Nat} {xs ys : List D} (h1 : ∀ d ∈ xs, D.flat n d = true) (h2 : ∀ d ∈ ys, D.flat n d = true) : D.flats n (xs ++ ys) = true := flats_of fun d hd => (List.mem_append.mp hd).elim (h1 d) (h2 d)
section
variable (x : List Nat) (rs : List (List Nat)) (S : Sto)
def crR (x3 x4 : Option D) : Ro := [some (.str (tx x)), some (.lst (rs.map fun y => .str (tx y))), some (.ref S.length 0), x3, x4, none]
theorem cr2b_ok (k : Nat) (r : List Nat) (ws : List (List Nat)) (hk : rs[k]? = some r) (g : rowGood r ws) (acc : List D) (hacc : ∀ d ∈ acc, D.flat 3 d = true) (hl : acc.length < 16000000) (x4 : Option D) :
    ∃ x4', cr2b (crR x rs S (some (.int k)) x4) ([.lst acc] :: S) = .nx (crR x rs S (some (.int k)) x4') ([.lst (acc ++ foundD k [ws])] :: S) := by
  obtain ⟨h1, h, t, h2, h3, h4, h5⟩ := g
  have ag : atI (rs.map fun y => D.str (tx y)) (k : Int) = some (.str (tx r)) := by rw [atI_nn (by omega)]; simp [hk]
  have s1 := fun S => gSplit_tx r 35 S (by decide) h1
  have s2 := fun S => gSplit_tx h 32 S (by decide) h3
  rw [h2] at s1
  have L := lc_filter 5 (cTB (cB gNeA (cV 5) (cK (.str (tx []))))) (cV 5) (crR x rs S (some (.int k)) x4) ([.lst acc] :: S) (fun d => match d with | .str y => decide (y ≠ tx []) | _ => false) id ((TL.spl [32] 0 [] h).map fun w => .str (tx w)) (fun d hd => by
    obtain ⟨w, _, rfl⟩ := List.mem_map.mp hd
    unfold crR
    simp) (fun d hd _ => by
    obtain ⟨w, _, rfl⟩ := List.mem_map.mp hd
    unfold crR
    simp)
  have F : (((TL.spl [32] 0 [] h).map fun w => D.str (tx w)).filter (fun d => match d with | .str y => decide (y ≠ tx []) | _ => false)).map id = ws.map fun w => D.str (tx w) := by
    rw [List.map_id, List.filter_map, ← h5]
    congr 1
    refine List.filter_congr fun w _ => ?_
    simp [Function.comp]
  rw [F] at L
  have wl : ws.length ≤ 16000000 := by rw [← h5]; exact Nat.le_trans (List.length_filter_le _ _) h4
  have wli : (ws.length : Int) ≤ 16000000 := by omega
  refine ⟨some (wsD ws), ?_⟩
  simp only [cr2b, lits]
  unfold crR at L ⊢
  have ll := fun n => les_flat n (flats_app (n := 3) (xs := acc) (ys := [.tup [.int k, wsD ws]]) hacc (by intro d hd; rw [List.mem_singleton] at hd; subst hd; exact fd_flat wl))
  by_cases hw : ws = []
  · subst hw
    simp [ag, s1, s2, L, h4, wl, foundD]
  · have hp : 0 < ws.length := List.length_pos_iff.mpr hw
    simp only [foundD, if_neg hw]
    simp [ag, s1, s2, L, h4, wl, wli, hp, hl, put]
    rw [if_pos (ll _)]
    rfl
theorem found_app (k : Nat) (ws : List (List Nat)) (ls : List (List (List Nat))) : foundD k (ws :: ls) = foundD k [ws] ++ foundD (k + 1) ls := by
  by_cases h : ws = []
  · simp [foundD, h]
  · simp [foundD, h]
theorem cr2_loop : ∀ (ps : List (List Nat × List (List Nat))) (r1 : List (List Nat)) (acc : List D), rs = r1 ++ ps.map Prod.fst → (∀ p ∈ ps, rowGood p.1 p.2) → (∀ d ∈ acc, D.flat 3 d = true) → acc.length ≤ r1.length → rs.length ≤ 16000000 → ∀ x3 x4, ∃ x3' x4',
    forL (tgN 3) cr2b (rngD (r1.length : Int) ps.length) (crR x rs S x3 x4) ([.lst acc] :: S) = .nx (crR x rs S x3' x4') ([.lst (acc ++ foundD r1.length (ps.map Prod.snd))] :: S)
  | [], r1, acc, e, hg, ha, hl, hn, x3, x4 => ⟨x3, x4, by simp [foundD, rngD_zero]⟩
  | p :: ps, r1, acc, e, hg, ha, hl, hn, x3, x4 => by
    have hk : rs[r1.length]? = some p.1 := by rw [e]; simp
    have hlr : r1.length < rs.length := by rw [e]; simp
    have gp := hg p List.mem_cons_self
    have wl : ∀ w ∈ [p.2], w.length ≤ 16000000 := by
      intro w hw
      rw [List.mem_singleton] at hw
      obtain ⟨_, h, t, _, _, h4, h5⟩ := gp
      rw [hw, ← h5]
      exact Nat.le_trans (List.length_filter_le _ _) h4
    obtain ⟨y4, b⟩ := cr2b_ok x rs S r1.length p.1 p.2 hk gp acc ha (by omega) x4
    have fl := found_len [p.2] r1.length
    obtain ⟨z3, z4, ih⟩ := cr2_loop ps (r1 ++ [p.1]) (acc ++ foundD r1.length [p.2]) (by rw [e]; simp) (fun q hq => hg q (List.mem_cons_of_mem _ hq))
      (fun d hd => (List.mem_append.mp hd).elim (ha d) (found_flat wl d)) (by simp at fl ⊢; omega) hn (some (.int r1.length)) y4
    refine ⟨z3, z4, ?_⟩
    rw [List.length_cons, rngD_succ]
    refine (forL_nx rfl b).trans ?_
    rw [List.length_append, List.length_singleton] at ih
    refine ih.trans ?_
    rw [List.map_cons, found_app r1.length p.2 (ps.map Prod.snd), List.append_assoc]
theorem code_rows_ok (ps : List (List Nat × List (List Nat))) (hx : x.length ≤ 16000000) (hs : TL.spl [10] 0 [] x = ps.map Prod.fst) (hg : ∀ p ∈ ps, rowGood p.1 p.2) (hn : ps.length ≤ 16000000) :
    m_code_rows [.str (tx x)] S = .ok (.lst (foundD 0 (ps.map Prod.snd))) S := by
  have sp := fun S => gSplit_tx x 10 S (by decide) hx
  rw [hs] at sp
  have hn' : (ps.length : Int) ≤ 16000000 := by omega
  have hln : (ps.map Prod.fst).length ≤ 16000000 := by rw [List.length_map]; exact hn
  obtain ⟨z3, z4, L⟩ := cr2_loop x (ps.map Prod.fst) S ps [] [] rfl hg (by intro d hd; simp at hd) (Nat.le_refl _) hln none none
  have e1 : cr1 [some (.str (tx x)), none, none, none, none, none] ([] :: S) = .nx (crR x (ps.map Prod.fst) S none none) ([.lst []] :: S) := by
    simp only [cr1, lits]
    unfold crR
    simp [sp, newAt, D.les]
  have e2 : cr2 (crR x (ps.map Prod.fst) S none none) ([.lst []] :: S) = .nx (crR x (ps.map Prod.fst) S z3 z4) ([.lst (foundD 0 (ps.map Prod.snd))] :: S) := by
    have z : ((([] : List (List Nat)).length : Nat) : Int) = 0 := rfl
    rw [z] at L
    unfold crR at L ⊢
    simp only [cr2, lits]
    simp [hn, hn']
    simpa using L
  have e3 : cr3 (crR x (ps.map Prod.fst) S z3 z4) ([.lst (foundD 0 (ps.map Prod.snd))] :: S) = .ret (.ref S.length 0) ([.lst (foundD 0 (ps.map Prod.snd))] :: S) := rfl
  have wls : ∀ ws ∈ ps.map Prod.snd, ws.length ≤ 16000000 := by
    intro w hw
    obtain ⟨p, hp, rfl⟩ := List.mem_map.mp hw
    obtain ⟨_, h, t, _, _, h4, h5⟩ := hg p hp
    rw [← h5]
    exact Nat.le_trans (List.length_filter_le _ _) h4
  show runF 6 c_code_rows _ _ = _
  rw [runF_out, c_code_rows_eq]
  simp only [List.map_cons, List.map_nil, List.length_cons, List.length_nil, List.replicate, List.cons_append, List.nil_append, Nat.reduceAdd, Nat.reduceSub, cSeq_eq]
  rw [e1]
  simp only [RSt.andThen_nx, cSeq_eq, e2, e3, outF_ret]
  exact leave_lst (n := 3) S (by decide) rfl (flats_of (found_flat wls))
end
end K26

namespace K26
open MP PySem L2
theorem sum_parts {n : Int} (h : n < 65536) : ∀ g : List Nat, ((g.map (partT n)).map List.length).sum ≤ g.length * 6
  | [] => by simp
  | c :: g => by
    have := part_len h c
    have ih := sum_parts h g
    rw [List.map_cons, List.map_cons, List.sum_cons, List.length_cons]
    omega
def asc (w : List Nat) : Bool := w.all fun c => decide (c < 1114112)
theorem lay_str {w : List Nat} (h : asc w = true) : PyData.canLay0 (.str (tx w)) = true := by
  show PyData.strOk (tx w) = true
  unfold PyData.strOk
  rw [← Array.all_toList]
  exact h
theorem lays_strs (n : Nat) : ∀ ws : List (List Nat), (∀ w ∈ ws, asc w = true) → D.lays (n + 1) (ws.map fun w => D.str (tx w)) = true
  | [], _ => rfl
  | w :: ws, h => by
    simp only [List.map_cons, D.lays, Bool.and_eq_true]
    exact ⟨lay_str (h w List.mem_cons_self), lays_strs n ws fun v hv => h v (List.mem_cons_of_mem _ hv)⟩
theorem eq_nil (ws : List (List Nat)) (h : ∀ w ∈ ws, asc w = true) (S : Sto) : gEq (.lst (ws.map fun w => D.str (tx w))) (.lst []) S = .ok (.bl (decide (ws = []))) S := by
  have a : D.lay 2 (.lst (ws.map fun w => D.str (tx w))) = true := lays_strs 0 ws h
  have s := shaped_lay a (by decide)
  rw [gEq_ll, s, shaped_lnil]
  cases ws with
  | nil => simp [D.toP, D.toPs, PyData.eqv, PyData.eqvAll]
  | cons w ws => simp [D.toP, D.toPs, PyData.eqv, PyData.eqvAll]
theorem nT_asc (i : Int) : asc (nT i) = true := List.all_eq_true.mpr fun c hc => by
  have := TL.numL_digits i.toNat c hc
  simp; omega
theorem cutL_tail (w : List Nat) (c : Nat) : cutL (w ++ [c]) (some (-1)) none = [c] := by
  unfold cutL
  rw [HT.sIx_none]
  have : HT.sIx (w ++ [c]).length 0 (some (-1)) = w.length := by
    unfold HT.sIx
    simp only [show (-1 : Int) < 0 from by decide, if_true, List.length_append, List.length_singleton]
    omega
  rw [this]
  simp
def notLab (ws : List (List Nat)) : Prop := ws.length ≠ 1 ∨ ∃ w c, ws = [w ++ [c]] ∧ c ≠ 58 ∧ w.length + 1 ≤ 16000000
theorem lab_row {ws : List (List Nat)} (hl : ws.length ≤ 16000000) (h : notLab ws) (S : Sto) : m_is_label_row [wsD ws] S = .ok (.bl false) S := by
  have hi : (ws.length : Int) ≤ 16000000 := by omega
  simp only [m_is_label_row, c_is_label_row, runF_eq, lits]
  rcases h with h | ⟨w, c, rfl, hc, hw⟩
  · have wl : ∀ S, gLenA [wsD ws] S = .ok (.int ws.length) S := fun S => by
      rw [gLenA_of S (wsD ws) rfl, gLen_l]; simp [hl]
    have h' : ¬ ((ws.length : Int) = 1) := by omega
    generalize wsD ws = W at *
    simp [wl, h']
  · simp [hw, cutL_tail, hc]
theorem numL_head : ∀ n : Nat, 0 < n → (TL.numL n).take 1 ≠ [48] := by
  intro n
  induction n using Nat.strongRecOn with
  | _ n ih =>
    intro h0
    by_cases h : n < 10
    · rw [TL.numL_lt h]; simp; omega
    · rw [TL.numL_step (by omega)]
      have := ih (n / 10) (by omega) (by omega)
      rw [List.take_append_of_le_length]
      · exact this
      · exact List.length_pos_iff.mpr (TL.numL_ne _)
theorem digL_num (n : Nat) : digL (TL.numL n) = true := by
  refine List.all_eq_true.mpr fun c hc => ?_
  have := TL.numL_digits n c hc
  simp [isFig]; omega
theorem num_back {i l : Int} (h0 : 0 ≤ i) (h : i < l) (hl : l ≤ 65536) : numB (nT i) l = some i := by
  have hv : ((NumText.digitsVal (nT i) : Nat) : Int) = i := by unfold nT; rw [TL.numL_val]; omega
  have hn := nT_len (i := i) (by omega)
  unfold numB
  rw [if_pos, hv]
  refine ⟨List.length_pos_iff.mpr (TL.numL_ne _), hn, digL_num _, fun e => ?_, by rw [hv]; exact h⟩
  by_cases z : i.toNat = 0
  · exact e.2 (by unfold nT; rw [z]; rfl)
  · exact numL_head i.toNat (by omega) e.1
def pv (n : Int) (c : Nat) : Int := if c = 100 then dP n else if c = 115 then sP n else if c = 119 then n else iP n
theorem part_back {n : Int} (h0 : 0 ≤ n) (h : n < 65536) {c : Nat} (hc : okC c) : partL (partT n c) c [] = some (pv n c) := by
  have dl := dP_lim n
  have sl := sP_lim n
  have il := iP_lim n
  have b1 := num_back dl.1 dl.2 (by decide)
  have b2 := num_back sl.1 sl.2 (by decide)
  have b3 := num_back il.1 il.2 (by decide)
  have b4 := num_back h0 h (by decide)
  rcases hc with rfl | rfl | rfl | rfl | rfl
  · simp [partL, partT, pv, b1]
  · simp [partL, partT, pv, b2]
  · simp [partL, partT, pv, b3]
  · simp [partL, partT, pv, lookL, b3]
  · simp [partL, partT, pv, b4]
def putAll (n : Int) : List Nat → Tell → Tell
  | [], t => t
  | c :: g, t => putAll n g (t.put c (pv n c))
theorem tell_back {n : Int} (h0 : 0 ≤ n) (h : n < 65536) (w : List Nat) (ws : List (List Nat)) : ∀ (g2 g1 : List Nat) (t : Tell), ws = (g1 ++ g2).map (partT n) → (∀ c ∈ g2, okC c) → tellL (w :: ws) [] g2 g1.length t = .ok (putAll n g2 t)
  | [], _, _, _, _ => rfl
  | c :: g2, g1, t, e, hg => by
    have hi : (w :: ws)[g1.length + 1]? = some (partT n c) := by rw [e]; simp
    rw [tellL, hi, Option.bind_some, part_back h0 h (hg c List.mem_cons_self)]
    have ih := tell_back h0 h w ws g2 (g1 ++ [c]) (t.put c (pv n c)) (by rw [e]; simp) (fun d hd => hg d (List.mem_cons_of_mem _ hd))
    rw [List.length_append, List.length_singleton] at ih
    exact ih
theorem sum_all (n : Int) : oP n * 4096 + dP n * 1024 + sP n * 256 + iP n = n := by unfold oP dP sP iP; omega
theorem form_back {n : Int} (h0 : 0 ≤ n) (h : n < 65536) : ∃ o m, opL (formP n).1 = some (o, (formP n).2, m) ∧ wholeT o (formP n).2 (putAll n (formP n).2 ⟨0, 0, m, none⟩) = some n := by
  have dl := dP_lim n
  have sl := sP_lim n
  have il := iP_lim n
  have ol := oP_lim h0 h
  have sm := sum_all n
  have W : ∃ o m, opL wordW = some (o, [119], m) ∧ wholeT o [119] (putAll n [119] ⟨0, 0, m, none⟩) = some n := ⟨0, 0, rfl, by simp [wholeT, putAll, Tell.put, pv]⟩
  by_cases hs : spareP (oP n) (dP n) (sP n) (iP n) (baseP (oP n) (iP n)).2 = true
  · have e : formP n = (wordW, [119]) := by unfold formP; rw [if_pos hs]
    rw [e]; exact W
  · have e : formP n = baseP (oP n) (iP n) := by unfold formP; rw [if_neg hs]
    rw [e]
    by_cases h7 : oP n = 0 ∧ iP n < 7
    · have : iP n = 0 ∨ iP n = 1 ∨ iP n = 2 ∨ iP n = 3 ∨ iP n = 4 ∨ iP n = 5 ∨ iP n = 6 := by omega
      have b : baseP (oP n) (iP n) = (aluL.getD (iP n).toNat [], [100, 115]) := by
        unfold baseP
        rw [if_pos h7, h7.1]
        rfl
      rw [b]
      have hw : wholeT 0 [100, 115] (putAll n [100, 115] ⟨0, 0, iP n, none⟩) = some n := by
        simp [wholeT, putAll, Tell.put, pv]
        omega
      refine ⟨0, iP n, ?_, hw⟩
      rcases this with e | e | e | e | e | e | e <;> rw [e] <;> rfl
    · by_cases hk : oP n = 0 ∨ oP n = 15
      · have b : baseP (oP n) (iP n) = (wordW, [119]) := by
          unfold baseP
          rw [if_neg h7]
          rcases hk with e | e <;> rw [e] <;> rfl
        rw [b]; exact W
      · have ho : oP n = 1 ∨ oP n = 2 ∨ oP n = 3 ∨ oP n = 4 ∨ oP n = 5 ∨ oP n = 6 ∨ oP n = 7 ∨ oP n = 8 ∨ oP n = 9 ∨ oP n = 10 ∨ oP n = 11 ∨ oP n = 12 ∨ oP n = 13 ∨ oP n = 14 := by omega
        unfold baseP at hs ⊢
        rw [if_neg h7] at hs ⊢
        rcases ho with e | e | e | e | e | e | e | e | e | e | e | e | e | e <;> rw [e] at hs ⊢ <;> rw [e] at sm <;> refine ⟨_, 0, rfl, ?_⟩ <;> simp [spareP, pickF, F] at hs <;> simp [wholeT, pickF, F, putAll, Tell.put, pv] <;> omega
theorem ok_of {n : Int} : ∀ c ∈ (formP n).2, okC c := by
  have f := (form_in n (iP_lim n).1).2
  unfold okG at f
  simp only [Bool.and_eq_true, List.all_eq_true, decide_eq_true_eq] at f
  exact f.1
theorem form_len (n : Int) : (formP n).2.length ≤ 3 ∧ (formP n).1.length ≤ 5 ∧ (formP n).1 ≠ [] ∧ ∀ c ∈ (formP n).1, 97 ≤ c ∧ c ≤ 122 := by
  obtain ⟨a, b⟩ := form_in n (iP_lim n).1
  unfold okG at b
  unfold okW at a
  simp only [Bool.and_eq_true, List.all_eq_true, decide_eq_true_eq] at a b
  exact ⟨b.2, a.1.1, a.2, a.1.2⟩
theorem mem_join {c : Nat} {g : List Nat} : ∀ {ws : List (List Nat)}, c ∈ TL.joinL g ws → c ∈ g ∨ ∃ w ∈ ws, c ∈ w
  | [], h => by simp [TL.joinL] at h
  | [w], h => .inr ⟨w, List.mem_singleton.mpr rfl, by simpa [TL.joinL] using h⟩
  | w :: v :: ws, h => by
    simp only [TL.joinL, List.mem_append] at h
    rcases h with h | h | h
    · exact .inr ⟨w, List.mem_cons_self, h⟩
    · exact .inl h
    · rcases mem_join h with h | ⟨u, hu, h⟩
      · exact .inl h
      · exact .inr ⟨u, List.mem_cons_of_mem _ hu, h⟩
theorem join_len (g : List Nat) : ∀ ws : List (List Nat), (TL.joinL g ws).length ≤ (ws.map List.length).sum + ws.length * g.length
  | [] => by simp [TL.joinL]
  | [w] => by simp [TL.joinL]
  | w :: v :: ws => by
    have := join_len g (v :: ws)
    simp only [TL.joinL, List.length_append, List.map_cons, List.sum_cons, List.length_cons, Nat.succ_mul] at this ⊢
    omega
def clean (ws : List (List Nat)) : Prop := ws ≠ [] ∧ ∀ w ∈ ws, w ≠ [] ∧ ∀ c ∈ w, 48 ≤ c ∧ c ≤ 122 ∧ c ≠ 58
theorem clean_row {ws : List (List Nat)} (h : clean ws) (hl : (TL.joinL [32] ws).length ≤ 16000000) (hw : ws.length ≤ 16000000) : rowGood (TL.joinL [32] ws) ws ∧ 10 ∉ TL.joinL [32] ws := by
  have no : ∀ s, s < 48 → s ≠ 32 → s ∉ TL.joinL [32] ws := fun s hs h2 hm => by
    rcases mem_join hm with q | ⟨w, q1, q2⟩
    · rw [List.mem_singleton] at q; omega
    · have := (h.2 w q1).2 s q2; omega
  have sj : TL.spl [32] 0 [] (TL.joinL [32] ws) = ws := TL.spl_join h.1 fun p hp hm => by
    have := (h.2 p hp).2 32 hm; omega
  refine ⟨⟨hl, TL.joinL [32] ws, [], TL.spl_last1 (no 35 (by decide) (by decide)), hl, by rw [sj]; exact hw, ?_⟩, no 10 (by decide) (by decide)⟩
  rw [sj]
  exact List.filter_eq_self.mpr fun w hw => decide_eq_true (h.2 w hw).1
theorem clean_lab {ws : List (List Nat)} (h : clean ws) (hl : (TL.joinL [32] ws).length ≤ 16000000) : notLab ws := by
  by_cases h1 : ws.length = 1
  · obtain ⟨w, rfl⟩ := List.length_eq_one_iff.mp h1
    obtain ⟨n, c⟩ := h.2 w List.mem_cons_self
    refine .inr ⟨w.dropLast, w.getLast n, by rw [List.dropLast_concat_getLast], (c _ (List.getLast_mem n)).2.2, ?_⟩
    have : TL.joinL [32] [w] = w := rfl
    rw [this] at hl
    have : 0 < w.length := List.length_pos_iff.mpr n
    rw [List.length_dropLast]; omega
  · exact .inl h1
theorem nT_sign {i : Int} : ∀ c ∈ nT i, 48 ≤ c ∧ c ≤ 122 ∧ c ≠ 58 := fun c hc => by
  have := TL.numL_digits i.toNat c hc
  omega
theorem row_clean (n : Int) : clean (rowW n) := by
  obtain ⟨_, _, w0, wl⟩ := form_len n
  refine ⟨by simp [rowW], fun w hw => ?_⟩
  rcases List.mem_cons.mp hw with rfl | hw
  · exact ⟨w0, fun c hc => by have := wl c hc; omega⟩
  · obtain ⟨c, _, rfl⟩ := List.mem_map.mp hw
    have ne : ∀ i, nT i ≠ [] := fun i => TL.numL_ne _
    unfold partT
    split
    · exact ⟨by simp, fun c hc => by rcases List.mem_cons.mp hc with rfl | hc; omega; exact nT_sign c hc⟩
    · split
      · exact ⟨by simp, fun c hc => by rcases List.mem_cons.mp hc with rfl | hc; omega; exact nT_sign c hc⟩
      · split <;> exact ⟨ne _, nT_sign⟩
theorem rowT_len {n : Int} (h : n < 65536) : (rowT n).length ≤ 30 := by
  obtain ⟨l1, l2, _, _⟩ := form_len n
  have := join_len [32] (rowW n)
  have s := sum_parts h (formP n).2
  have e : ((rowW n).map List.length).sum = (formP n).1.length + (((formP n).2.map (partT n)).map List.length).sum := by simp [rowW]
  have e2 : (rowW n).length = (formP n).2.length + 1 := by simp [rowW]
  rw [List.length_singleton] at this
  unfold rowT
  omega
end K26

namespace K26
open MP PySem L2
/-! ### labels -/
def isLet (c : Nat) : Bool := decide (97 ≤ c ∧ c ≤ 122)
def labW (v : List Nat) : Bool := decide (0 < v.length ∧ v.length ≤ 12) && (v.take 1).all isLet && v.all fun c => isLet c || isFig c
theorem let_eq : k_LETTERS = .str (tx [97, 98, 99, 100, 101, 102, 103, 104, 105, 106, 107, 108, 109, 110, 111, 112, 113, 114, 115, 116, 117, 118, 119, 120, 121, 122]) := by unfold k_LETTERS; simp only [lits]
theorem let_in (c : Nat) : (c ∈ [97, 98, 99, 100, 101, 102, 103, 104, 105, 106, 107, 108, 109, 110, 111, 112, 113, 114, 115, 116, 117, 118, 119, 120, 121, 122]) ↔ (97 ≤ c ∧ c ≤ 122) := by
  simp only [List.mem_cons, List.not_mem_nil, or_false]; omega
theorem let_mem (c : Nat) (S : Sto) : gMem (.str (tx [c])) k_LETTERS S = .ok (.bl (isLet c)) S := by
  rw [let_eq]
  have := let_in c
  simp [isLet]
  simp at this
  rw [Bool.eq_iff_iff]
  simp
  exact this
theorem fig_mem (c : Nat) (S : Sto) : gMem (.str (tx [c])) k_FIGURES S = .ok (.bl (isFig c)) S := by
  rw [figs_eq]; simp [isFig]
theorem label_ok (v : List Nat) (hv : v.length ≤ 16000000) (S : Sto) : m_is_label [.str (tx v)] S = .ok (.bl (labW v)) S := by
  have L := lc_signs 1 (cOr (cB gMem (cV 1) (cK k_LETTERS)) (cB gMem (cV 1) (cK k_FIGURES))) [some (.str (tx v)), none] ([] :: S) (fun c => .bl (isLet c || isFig c)) v fun c hc => by
    cases h : isLet c <;> simp [let_mem, fig_mem, h]
  have A : gAll [.lst (v.map fun c => D.bl (isLet c || isFig c))] ([] :: S) = .ok (.bl (v.all fun c => isLet c || isFig c)) ([] :: S) := all_bls (fun c => isLet c || isFig c) v ([] :: S)
  have nm : ∀ c S, gNotMem (.str (tx [c])) k_LETTERS S = .ok (.bl (!isLet c)) S := fun c S => by
    have := let_mem c S
    unfold gMem gIn at this
    unfold gNotMem gNotIn
    have kd : k_LETTERS.dict S = none := by rw [let_eq]; rfl
    rw [kd] at this ⊢
    simp only at this ⊢
    cases h : inB (D.str (tx [c])) (k_LETTERS.top S) with
    | none => rw [h] at this; cases this
    | some b => rw [h] at this; cases this; rfl
  simp only [m_is_label, c_is_label, runF_eq]
  unfold labW
  cases v with
  | nil => simp
  | cons c r =>
    simp only [List.map_cons] at L A
    have a0 : atI (c :: r) 0 = some c := atI_0 c r
    have h4 : r.length + 1 ≤ 16000000 := by simpa using hv
    by_cases h1 : (c :: r).length ≤ 12
    · have h2 : ¬ ((12 : Int) < (r.length : Int) + 1) := by simp at h1; omega
      have h3 : ((r.length : Int) + 1) ≤ 12 := by simp at h1; omega
      have h5 : r.length ≤ 11 := by simpa using h1
      cases hc : isLet c with
      | false =>
        simp [h2, h3, h4, h5, a0, nm, hc]
      | true =>
        simp only [hc, Bool.true_or] at L A
        simp [h2, h3, h4, h5, a0, nm, hc, L, A]
    · have h2 : ((12 : Int) < (r.length : Int) + 1) := by simp at h1; omega
      have h5 : ¬ r.length ≤ 11 := by simp at h1; omega
      have h6 : ¬ ((r.length : Int) + 1 ≤ 12) := by omega
      simp [h2, h4, h5, h6]
theorem label_odd (d : D) (hk : kind d = true) (h : ∀ x, d ≠ .str x) (S : Sto) : m_is_label [d] S = .ok (.bl false) S := by
  simp only [m_is_label, c_is_label, runF_eq]
  cases d <;> first | (simp [kind] at hk; done) | (exact absurd rfl (h _)) | simp
/-- a row of one word, a label and a colon -/
def isLab : List (List Nat) → Bool
  | [w] => decide (w.getLast? = some 58) && labW w.dropLast
  | _ => false
theorem cutL_tail0 : cutL ([] : List Nat) (some (-1)) none = [] := rfl
theorem lab_rowG {ws : List (List Nat)} (hl : ws.length ≤ 16000000) (hw : ∀ w ∈ ws, w.length ≤ 16000000) (S : Sto) : m_is_label_row [wsD ws] S = .ok (.bl (isLab ws)) S := by
  have hi : (ws.length : Int) ≤ 16000000 := by omega
  simp only [m_is_label_row, c_is_label_row, runF_eq, lits]
  by_cases h : ws.length = 1
  · obtain ⟨w, rfl⟩ := List.length_eq_one_iff.mp h
    have lw := hw w List.mem_cons_self
    unfold isLab
    rcases List.eq_nil_or_concat w with rfl | ⟨v, c, rfl⟩
    · simp [cutL_tail0]
    · have lb := fun S => label_ok v (by simp at lw; omega) S
      have lw' : v.length + 1 ≤ 16000000 := by simpa using lw
      by_cases hc : c = 58
      · simp [lw', cutL_tail, hc, cutL_last, lb]
      · simp [lw', cutL_tail, hc]
  · have wl : ∀ S, gLenA [wsD ws] S = .ok (.int ws.length) S := fun S => by
      rw [gLenA_of S (wsD ws) rfl, gLen_l]; simp [hl]
    have h' : ¬ ((ws.length : Int) = 1) := by omega
    have e : isLab ws = false := by
      unfold isLab
      split
      · simp at h
      · rfl
    rw [e]
    generalize wsD ws = W at *
    simp [wl, h']
end K26

namespace K26
open MP PySem L2
/-! ### any text of code -/
abbrev Words := List (List Nat)
abbrev Rows := List (Nat × Words)
abbrev fdD (p : Nat × Words) : D := .tup [.int p.1, wsD p.2]
def rowsN : Nat → List Words → Rows
  | _, [] => []
  | k, ws :: r => if ws = [] then rowsN (k + 1) r else (k, ws) :: rowsN (k + 1) r
theorem found_rows : ∀ (ls : List Words) (k : Nat), foundD k ls = (rowsN k ls).map fdD
  | [], _ => rfl
  | ws :: ls, k => by
    rw [foundD, rowsN, found_rows ls (k + 1)]
    by_cases h : ws = [] <;> simp [h]
def okWs (ws : Words) : Prop := ws.length ≤ 16000000 ∧ ∀ w ∈ ws, w.length ≤ 16000000
def setL (lab : Labs) (w : List Nat) (p : Int) : Labs := match lookL lab w with
  | some _ => lab
  | none => lab ++ [(w, p)]
def nameOf (ws : Words) : List Nat := (ws.headD []).dropLast
def labsL : List Words → Int → Labs → Labs
  | [], _, lab => lab
  | ws :: r, p, lab => if isLab ws = true then labsL r p (setL lab (nameOf ws) p) else labsL r (p + 1) lab
theorem isLab_one {ws : Words} (h : isLab ws = true) : ∃ v, ws = [v ++ [58]] ∧ labW v = true := by
  unfold isLab at h
  split at h
  · rename_i w
    simp only [Bool.and_eq_true, decide_eq_true_eq] at h
    rcases List.eq_nil_or_concat w with rfl | ⟨v, c, rfl⟩
    · simp at h
    · simp at h
      exact ⟨v, by rw [h.1]; simp, h.2⟩
  · cases h
theorem has_lab (w : List Nat) : ∀ lab : Labs, hasK (labK lab) (.inr (tx w)) = (lookL lab w).isSome
  | [] => rfl
  | p :: lab => by
    have ih := has_lab w lab
    unfold hasK at ih ⊢
    show (decide ((Sum.inr (tx p.1) : Key) = Sum.inr (tx w)) || (labK lab).any fun x => decide (x = Sum.inr (tx w))) = _
    rw [ih, lookL]
    by_cases h : p.1 = w
    · simp [h]
    · simp [h]
theorem box_set {lab : Labs} {w : List Nat} {p : Int} (h : lookL lab w = none) : putKs (labK lab) (.inr (tx w)) = labK (lab ++ [(w, p)]) ∧ putA (labK lab) (labV lab) (.inr (tx w)) (.int p) = labV (lab ++ [(w, p)]) := by
  have e := has_lab w lab
  rw [h] at e
  unfold putKs putA
  rw [e]
  simp
theorem les_lab (l : Nat) : ∀ lab : Labs, D.les l (labV lab) = true
  | [] => rfl
  | p :: lab => by
    have := les_lab l lab
    show (D.le l (.int p.2) && D.les l (labV lab)) = true
    rw [this]
    rfl
theorem setL_len (lab : Labs) (w : List Nat) (p : Int) : (setL lab w p).length ≤ lab.length + 1 := by
  unfold setL; split <;> simp
section
variable (x : List Nat) (S : Sto)
def clR (p : Int) (x3 x4 : Option D) : Ro := [some (.str (tx x)), some (.ref S.length 0), some (.int p), x3, x4]
theorem cl2_step (ws : Words) (ok : okWs ws) (k : Nat) (p : Int) (lab : Labs) (hl : lab.length < 16000000) : cl2b (clR x S p (some (.int k)) (some (wsD ws))) ([.box (.dK (labK lab)) (labV lab)] :: S) =
    if isLab ws = true then .nx (clR x S p (some (.int k)) (some (wsD ws))) ([.box (.dK (labK (setL lab (nameOf ws) p))) (labV (setL lab (nameOf ws) p))] :: S)
    else .nx (clR x S (p + 1) (some (.int k)) (some (wsD ws))) ([.box (.dK (labK lab)) (labV lab)] :: S) := by
  have b := lab_rowG ok.1 ok.2
  unfold clR
  cases hL : isLab ws with
  | false =>
    rw [hL] at b
    generalize wsD ws = W at *
    simp only [cl2b, lits]
    simp [b]
  | true =>
    rw [hL] at b
    obtain ⟨v, rfl, hv⟩ := isLab_one hL
    have lw := ok.2 _ List.mem_cons_self
    have lw' : v.length + 1 ≤ 16000000 := by simpa using lw
    have nm : nameOf [v ++ [58]] = v := by simp [nameOf]
    rw [nm]
    have g := getA_lab v lab
    have cl := cutL_last (v ++ [58])
    rw [List.dropLast_concat] at cl
    have i0 : ∀ a : D, atI [a] 0 = some a := fun _ => rfl
    cases hlk : lookL lab v with
    | some q =>
      rw [hlk] at g
      have : setL lab v p = lab := by unfold setL; rw [hlk]
      rw [this]
      simp only [cl2b, lits]
      simp [b, lw', cl, g, hl]
    | none =>
      rw [hlk] at g
      have e : setL lab v p = lab ++ [(v, p)] := by unfold setL; rw [hlk]
      obtain ⟨s1, s2⟩ := box_set (p := p) hlk
      have ls := les_lab S.length (lab ++ [(v, p)])
      rw [e]
      rw [← s2] at ls ⊢
      rw [← s1]
      simp only [cl2b, lits]
      simp [b, lw', cl, g, hl, ls, put]
theorem cl2_run : ∀ (rows : Rows) (lab : Labs) (p : Int) (x3 x4 : Option D), (∀ r ∈ rows, okWs r.2) → lab.length + rows.length ≤ 16000000 → ∃ p' x3' x4', forL (tgT [(tgN 3) , (tgN 4)]) cl2b (rows.map fdD) (clR x S p x3 x4) ([.box (.dK (labK lab)) (labV lab)] :: S) =
    .nx (clR x S p' x3' x4') ([.box (.dK (labK (labsL (rows.map Prod.snd) p lab))) (labV (labsL (rows.map Prod.snd) p lab))] :: S)
  | [], lab, p, x3, x4, _, _ => ⟨p, x3, x4, rfl⟩
  | (k, ws) :: rows, lab, p, x3, x4, ok, hl => by
    rw [List.length_cons] at hl
    have st := cl2_step x S ws (ok _ List.mem_cons_self) k p lab (by omega)
    have sl := setL_len lab (nameOf ws) p
    rw [List.map_cons, List.map_cons, labsL]
    cases hL : isLab ws with
    | true =>
      rw [hL, if_pos rfl] at st
      obtain ⟨p', y3, y4, ih⟩ := cl2_run rows (setL lab (nameOf ws) p) p (some (.int k)) (some (wsD ws)) (fun r hr => ok r (List.mem_cons_of_mem _ hr)) (by omega)
      exact ⟨p', y3, y4, (forL_nx (ρ1 := clR x S p (some (.int k)) (some (wsD ws))) rfl st).trans (by rw [if_pos rfl]; exact ih)⟩
    | false =>
      rw [hL, if_neg (by decide)] at st
      obtain ⟨p', y3, y4, ih⟩ := cl2_run rows lab (p + 1) (some (.int k)) (some (wsD ws)) (fun r hr => ok r (List.mem_cons_of_mem _ hr)) (by omega)
      exact ⟨p', y3, y4, (forL_nx (ρ1 := clR x S p (some (.int k)) (some (wsD ws))) rfl st).trans (by rw [if_neg (by decide)]; exact ih)⟩
theorem leave_box {r : List O} (S : Sto) (lab : Labs) (h : r = [.box (.dK (labK lab)) (labV lab)]) : leave (.ref S.length 0) (r :: S) = .ok (labD lab) S := by
  subst h
  have go : ∀ (l : Labs) (r : List O) (n : Nat), mapO (D.fz r S.length (n + 1)) (labV l) = some (labV l) := by
    intro l r n
    induction l with
    | nil => rfl
    | cons p l ih =>
      have f : D.fz r S.length (n + 1) (.int p.2) = some (.int p.2) := rfl
      show mapO (D.fz r S.length (n + 1)) (.int p.2 :: labV l) = some (.int p.2 :: labV l)
      simp only [mapO, f, ih]
  have e : D.fz [.box (.dK (labK lab)) (labV lab)] S.length 40 (.ref S.length 0) = some (labD lab) := by
    show (if S.length = S.length then _ else _) = _
    rw [if_pos rfl]
    simp only [List.getElem?_cons_zero, go]
  simp only [leave, e]
/-- a text, its rows with words -/
structure TextOk (x : List Nat) (rows : Rows) : Prop where
  len : x.length ≤ 16000000
  spl : ∃ ps : List (List Nat × Words), TL.spl [10] 0 [] x = ps.map Prod.fst ∧ (∀ p ∈ ps, rowGood p.1 p.2) ∧ ps.length ≤ 16000000 ∧ rows = rowsN 0 (ps.map Prod.snd)
  ok : ∀ r ∈ rows, okWs r.2
  rl : rows.length ≤ 16000000
theorem rowsT_ok {x : List Nat} {rows : Rows} (t : TextOk x rows) (S : Sto) : m_code_rows [.str (tx x)] S = .ok (.lst (rows.map fdD)) S := by
  obtain ⟨ps, h1, h2, h3, h4⟩ := t.spl
  have := code_rows_ok x S ps t.len h1 h2 h3
  rw [this, found_rows, h4]
theorem labelsT_ok {x : List Nat} {rows : Rows} (t : TextOk x rows) (S : Sto) : m_code_labels [.str (tx x)] S = .ok (labD (labsL (rows.map Prod.snd) 0 [])) S := by
  have R := rowsT_ok t
  obtain ⟨p', y3, y4, L⟩ := cl2_run x S rows [] 0 none none t.ok (by have := t.rl; simpa using this)
  show runF 5 c_code_labels _ _ = _
  rw [runF_out, c_code_labels_eq]
  simp only [List.map_cons, List.map_nil, List.length_cons, List.length_nil, List.replicate, List.cons_append, List.nil_append, Nat.reduceAdd, Nat.reduceSub, cSeq_eq]
  have e1 : cl1 [some (.str (tx x)), none, none, none, none] ([] :: S) = .nx (clR x S 0 none none) ([.box (.dK (labK [])) (labV [])] :: S) := by
    simp only [cl1, lits]
    unfold clR
    simp [newAt]
  have e2 : cl2 (clR x S 0 none none) ([.box (.dK (labK [])) (labV [])] :: S) = .nx (clR x S p' y3 y4) ([.box (.dK (labK (labsL (rows.map Prod.snd) 0 []))) (labV (labsL (rows.map Prod.snd) 0 []))] :: S) := by
    refine Eq.trans ?_ L
    simp only [cl2, lits]
    unfold clR
    simp [R]
  rw [e1]
  simp only [RSt.andThen_nx, cSeq_eq]
  rw [e2]
  simp only [RSt.andThen_nx, cSeq_eq]
  unfold clR
  simp only [cl3]
  simp only [cRet_eq, cV_eq, RSt.of_ok, outF_ret]
  exact leave_box S _ rfl
end
end K26

namespace K26
open MP PySem L2
/-! ### rows that cannot stand; reading -/
def told (lab : Labs) (ws : Words) (v : Int) : Prop := ∀ (row : Int) (S : Sto), m_row_told [.int row, wsD ws, labD lab] S = .ok (.int v) S
def toldE (lab : Labs) (ws : Words) (j : Nat) : Prop := ∀ (row : Int) (S : Sto), m_row_told [.int row, wsD ws, labD lab] S = .err (invT row j) S
theorem invT_leave (r k : Int) (fr : List O) (S : Sto) : leaveX (invT r k) (fr :: S) = .err (invT r k) S := leaveX_flat (n := 2) fr S (by decide) rfl
section
variable (row : Int) (ws : List (List Nat)) (lab : Labs) (x3 x5 : Option D) (S : Sto)
theorem rt3_err (g : List Nat) (gl : g.length ≤ 16000000) (hg : ∀ c ∈ g, okC c) (hws : ∀ w ∈ ws, w.length ≤ 16000000) (hwl : ws.length ≤ 16000000) :
    ∀ (g2 g1 : List Nat) (t : Tell) (e : Nat), g = g1 ++ g2 → tellL ws lab g2 g1.length t = .error e → ∀ x7 x8, ∃ ρ fr, forL (tgN 7) rt3b (rngD (g1.length : Int) g2.length) (rtR row ws lab x3 x5 S g x7 x8) ([t.box] :: S) = .err (invT row e) ρ (fr :: S)
  | [], g1, t, e, _, h, x7, x8 => by cases h
  | c :: g2, g1, t, e, eg, h, x7, x8 => by
    rw [tellL] at h
    have hc : c ∈ g := by rw [eg]; simp
    have hi : g[g1.length]? = some c := by rw [eg]; simp
    obtain ⟨x8', b⟩ := rt3b_ok row ws lab x3 x5 S g gl hws hwl g1.length c (hg c hc) hi t x8
    rw [List.length_cons, rngD_succ]
    cases hv : (ws[g1.length + 1]?).bind (fun w => partL w c lab) with
    | none =>
      rw [hv] at h b
      simp only at h b
      cases h
      exact ⟨_, _, forL_err (ρ1 := rtR row ws lab x3 x5 S g (some (.int g1.length)) x8) rfl b⟩
    | some v =>
      rw [hv] at h b
      simp only at h b
      have e' : g = (g1 ++ [c]) ++ g2 := by rw [eg]; simp
      obtain ⟨ρ, fr, ih⟩ := rt3_err g gl hg hws hwl g2 (g1 ++ [c]) (t.put c v) e e' (by rw [List.length_append, List.length_singleton]; exact h) (some (.int g1.length)) x8'
      refine ⟨ρ, fr, ?_⟩
      refine (forL_nx rfl b).trans ?_
      rw [List.length_append, List.length_singleton] at ih
      exact ih
end
theorem told_E0 {w0 : List Nat} {ws : Words} {lab : Labs} (h : opL w0 = none) : toldE lab (w0 :: ws) 0 := fun row S => by
  have e1 := rt1_ok row w0 ws (some (labD lab)) none none none none none none ([] :: S)
  rw [h] at e1
  simp only at e1
  show runF 9 c_row_told _ _ = _
  rw [runF_out, c_row_told_eq]
  simp only [List.map_cons, List.map_nil, List.length_cons, List.length_nil, List.replicate, List.cons_append, List.nil_append, Nat.reduceAdd, Nat.reduceSub, cSeq_eq]
  rw [e1]
  exact invT_leave row 0 [] S
theorem told_E1 {w0 : List Nat} {ws : Words} {lab : Labs} {o m : Int} {g : List Nat} {e : Nat} (ho : opL w0 = some (o, g, m)) (gl : g.length ≤ 1000) (hg : ∀ c ∈ g, okC c) (ok : okWs (w0 :: ws)) (ht : tellL (w0 :: ws) lab g 0 ⟨0, 0, m, none⟩ = .error e) : toldE lab (w0 :: ws) e := fun row S => by
  have gi : (g.length : Int) ≤ 16000000 := by omega
  have gl' : g.length ≤ 16000000 := by omega
  have e1 := rt1_ok row w0 ws (some (labD lab)) none none none none none none ([] :: S)
  rw [ho] at e1
  simp only at e1
  have e2 := rt2_ok row (w0 :: ws) lab (some (.int o)) S m g none none
  obtain ⟨ρ, fr, e3⟩ := rt3_err row (w0 :: ws) lab (some (.int o)) (some (.int m)) S g gl' hg ok.2 ok.1 g [] ⟨0, 0, m, none⟩ e rfl ht none none
  have e3' : rt3 (rtR row (w0 :: ws) lab (some (.int o)) (some (.int m)) S g none none) ([(⟨0, 0, m, none⟩ : Tell).box] :: S) = .err (invT row e) ρ (fr :: S) := by
    have : ((([] : List Nat).length : Nat) : Int) = 0 := rfl
    rw [this] at e3
    simp only [rt3, lits]
    unfold rtR at e3 ⊢
    generalize wsD (w0 :: ws) = W at *
    simp [gl', gi, e3]
  show runF 9 c_row_told _ _ = _
  rw [runF_out, c_row_told_eq]
  simp only [List.map_cons, List.map_nil, List.length_cons, List.length_nil, List.replicate, List.cons_append, List.nil_append, Nat.reduceAdd, Nat.reduceSub, cSeq_eq]
  rw [e1]
  simp only [RSt.andThen_nx, cSeq_eq]
  rw [e2]
  simp only [RSt.andThen_nx, cSeq_eq]
  rw [e3']
  exact invT_leave row e fr S
theorem told_E2 {w0 : List Nat} {ws : Words} {lab : Labs} {o m : Int} {g : List Nat} {t : Tell} (ho : opL w0 = some (o, g, m)) (gl : g.length ≤ 1000) (hg : ∀ c ∈ g, okC c) (ok : okWs (w0 :: ws)) (ht : tellL (w0 :: ws) lab g 0 ⟨0, 0, m, none⟩ = .ok t) (hl : g.length < ws.length) : toldE lab (w0 :: ws) (g.length + 1) := fun row S => by
  have gi : (g.length : Int) ≤ 16000000 := by omega
  have gl' : g.length ≤ 16000000 := by omega
  have e1 := rt1_ok row w0 ws (some (labD lab)) none none none none none none ([] :: S)
  rw [ho] at e1
  simp only at e1
  have e2 := rt2_ok row (w0 :: ws) lab (some (.int o)) S m g none none
  obtain ⟨y7, y8, e3⟩ := rt3_good row (w0 :: ws) lab (some (.int o)) (some (.int m)) S g gl' hg ok.2 ok.1 g [] ⟨0, 0, m, none⟩ t rfl ht none none
  have e3' : rt3 (rtR row (w0 :: ws) lab (some (.int o)) (some (.int m)) S g none none) ([(⟨0, 0, m, none⟩ : Tell).box] :: S) = .nx (rtR row (w0 :: ws) lab (some (.int o)) (some (.int m)) S g y7 y8) ([t.box] :: S) := by
    have : ((([] : List Nat).length : Nat) : Int) = 0 := rfl
    rw [this] at e3
    simp only [rt3, lits]
    unfold rtR at e3 ⊢
    generalize wsD (w0 :: ws) = W at *
    simp [gl', gi, e3]
  have e4 : rt4 (rtR row (w0 :: ws) lab (some (.int o)) (some (.int m)) S g y7 y8) ([t.box] :: S) = .err (invT row (g.length + 1 : Nat)) (rtR row (w0 :: ws) lab (some (.int o)) (some (.int m)) S g y7 y8) ([t.box] :: S) := by
    have wl : ∀ S, gLenA [wsD (w0 :: ws)] S = .ok (.int (ws.length + 1)) S := fun S => by
      rw [gLenA_of S (wsD (w0 :: ws)) rfl, gLen_l]
      have h1 : ws.length + 1 ≤ 16000000 := by have := ok.1; simpa using this
      simp [h1]
    have hi : (g.length : Int) < ws.length := by omega
    simp only [rt4, lits]
    unfold rtR
    generalize wsD (w0 :: ws) = W at *
    simp [gl', wl, hi]
  show runF 9 c_row_told _ _ = _
  rw [runF_out, c_row_told_eq]
  simp only [List.map_cons, List.map_nil, List.length_cons, List.length_nil, List.replicate, List.cons_append, List.nil_append, Nat.reduceAdd, Nat.reduceSub, cSeq_eq]
  rw [e1]
  simp only [RSt.andThen_nx, cSeq_eq]
  rw [e2]
  simp only [RSt.andThen_nx, cSeq_eq, e3']
  rw [e4]
  exact invT_leave row (g.length + 1 : Nat) [t.box] S
/-- what reading comes to -/
inductive Reads (lab : Labs) : Rows → Words → List Int → Except (Nat × Nat) (List Int) → Prop
  | nil {met acc} : Reads lab [] met acc (.ok acc)
  | again {k ws r met acc} : isLab ws = true → ws.headD [] ∈ met → Reads lab ((k, ws) :: r) met acc (.error (k, 0))
  | far {k ws r met acc v} : isLab ws = true → ws.headD [] ∉ met → lookL lab (nameOf ws) = some v → 256 ≤ v → Reads lab ((k, ws) :: r) met acc (.error (k, 0))
  | lab {k ws r met acc v out} : isLab ws = true → ws.headD [] ∉ met → lookL lab (nameOf ws) = some v → v < 256 → Reads lab r (met ++ [ws.headD []]) acc out → Reads lab ((k, ws) :: r) met acc out
  | full {k ws r met acc} : isLab ws = false → acc.length = 256 → Reads lab ((k, ws) :: r) met acc (.error (k, 0))
  | bad {k ws r met acc j} : isLab ws = false → acc.length < 256 → toldE lab ws j → Reads lab ((k, ws) :: r) met acc (.error (k, j))
  | row {k ws r met acc v out} : isLab ws = false → acc.length < 256 → told lab ws v → Reads lab r met (acc ++ [v]) out → Reads lab ((k, ws) :: r) met acc out
end K26

namespace K26
open MP PySem L2
def metK (met : Words) : List Key := met.map fun w => .inr (tx w)
def metV (met : Words) : List D := met.map fun _ => .bl true
theorem has_met (w : List Nat) : ∀ met : Words, hasK (metK met) (.inr (tx w)) = decide (w ∈ met)
  | [] => rfl
  | v :: met => by
    have ih := has_met w met
    unfold hasK at ih ⊢
    show (decide ((Sum.inr (tx v) : Key) = Sum.inr (tx w)) || (metK met).any fun x => decide (x = Sum.inr (tx w))) = _
    rw [ih]
    by_cases h : v = w
    · simp [h]
    · have h' : ¬ w = v := fun e => h e.symm
      simp [h, h']
theorem get_met (w : List Nat) : ∀ met : Words, (getA (metK met) (metV met) (.inr (tx w))).isSome = decide (w ∈ met)
  | [] => rfl
  | v :: met => by
    have ih := get_met w met
    show (if (Sum.inr (tx v) : Key) = .inr (tx w) then some (D.bl true) else getA (metK met) (metV met) (.inr (tx w))).isSome = _
    by_cases h : v = w
    · simp [h]
    · have h' : ¬ w = v := fun e => h e.symm
      simp [h, h', ih]
theorem put_met {met : Words} {w : List Nat} (h : w ∉ met) : putKs (metK met) (.inr (tx w)) = metK (met ++ [w]) ∧ putA (metK met) (metV met) (.inr (tx w)) (.bl true) = metV (met ++ [w]) := by
  have e := has_met w met
  rw [decide_eq_false h] at e
  unfold putKs putA
  rw [e]
  simp [metK, metV]
theorem les_met (l : Nat) : ∀ met : Words, D.les l (metV met) = true
  | [] => rfl
  | p :: met => by
    have := les_met l met
    show (true && D.les l (metV met)) = true
    rw [this]; rfl
theorem gMem_top (ks : List Key) (vs : List D) (r : List O) (S : Sto) (k : Str) : gMem (.str k) (.ref S.length 0) ((.box (.dK ks) vs :: r) :: S) = .ok (.bl (getA ks vs (.inr k)).isSome) ((.box (.dK ks) vs :: r) :: S) := by
  have h : (D.ref S.length 0).dict ((.box (.dK ks) vs :: r) :: S) = some (ks, vs) := by simp [D.dict]
  unfold gMem gDin
  rw [h]
  rfl
section
variable (x : List Nat) (lab : Labs) (S : Sto)
def rcR (x4 x5 : Option D) : Ro := [some (.str (tx x)), some (labD lab), some (.ref S.length 0), some (.ref S.length 1), x4, x5]
def rcF (met : Words) (acc : List Int) : List O := [.box (.dK (metK met)) (metV met), .lst (acc.map D.int)]
theorem rc_lab (k : Nat) (v : List Nat) (hv : labW v = true) (lw : v.length + 1 ≤ 16000000) (q : Int) (hq : lookL lab v = some q) (met : Words) (hm : met.length < 16000000) (acc : List Int) : rc2b (rcR x lab S (some (.int k)) (some (wsD [v ++ [58]]))) (rcF met acc :: S) =
    if v ++ [58] ∈ met ∨ 256 ≤ q then .err (invT k 0) (rcR x lab S (some (.int k)) (some (wsD [v ++ [58]]))) (rcF met acc :: S)
    else .nx (rcR x lab S (some (.int k)) (some (wsD [v ++ [58]]))) (rcF (met ++ [v ++ [58]]) acc :: S) := by
  have hL : isLab [v ++ [58]] = true := by unfold isLab; simp [hv]
  have b := lab_rowG (ws := [v ++ [58]]) (by simp) (by intro w hw; rw [List.mem_singleton] at hw; subst hw; simpa using lw)
  rw [hL] at b
  have gm := gMem_top (metK met) (metV met) [.lst (acc.map D.int)] S (tx (v ++ [58]))
  rw [get_met] at gm
  have g := getA_lab v lab
  rw [hq] at g
  have gi : ∀ S, gItem (labD lab) (.str (tx v)) S = .ok (.int q) S := fun S => by rw [gItem_box]; simp [g]
  have cl := cutL_last (v ++ [58])
  rw [List.dropLast_concat] at cl
  unfold rcR rcF
  generalize labD lab = Lb at *
  by_cases h1 : v ++ [58] ∈ met
  · rw [decide_eq_true h1] at gm
    simp only [rc2b, rc2b_t, lits]
    simp [b, h1, gm]
  · rw [decide_eq_false h1] at gm
    by_cases h2 : 256 ≤ q
    · simp only [rc2b, rc2b_t, lits]
      simp [b, h1, gm, lw, cl, gi, h2]
    · obtain ⟨s1, s2⟩ := put_met h1
      have ls := les_met S.length (met ++ [v ++ [58]])
      have ml : (metK met).length < 16000000 := by simpa [metK] using hm
      simp only [rc2b, rc2b_t, lits]
      simp only [s1, s2, h1, h2, or_self, if_false]
      simp [b, gm, lw, cl, gi, h2, s1, s2, ls, ml, put]
theorem rc_row (k : Nat) (ws : Words) (ok : okWs ws) (hL : isLab ws = false) (met : Words) (acc : List Int) (ha : acc.length < 256) (v : Int) (ht : told lab ws v) : rc2b (rcR x lab S (some (.int k)) (some (wsD ws))) (rcF met acc :: S) = .nx (rcR x lab S (some (.int k)) (some (wsD ws))) (rcF met (acc ++ [v]) :: S) := by
  have b := lab_rowG ok.1 ok.2
  rw [hL] at b
  have t := fun S => ht k S
  have n1 : acc.length ≤ 16000000 := by omega
  have n2 : acc.length < 16000000 := by omega
  have n3 : ¬ ((acc.length : Int) = 256) := by omega
  have n4 := les_ints S.length (acc ++ [v])
  rw [List.map_append, List.map_cons, List.map_nil] at n4
  unfold rcR rcF
  generalize wsD ws = W at *
  generalize labD lab = Lb at *
  simp only [rc2b, rc2b_e, lits]
  simp [b, t, n1, n2, n3, n4, put]
theorem rc_full (k : Nat) (ws : Words) (ok : okWs ws) (hL : isLab ws = false) (met : Words) (acc : List Int) (ha : acc.length = 256) : rc2b (rcR x lab S (some (.int k)) (some (wsD ws))) (rcF met acc :: S) = .err (invT k 0) (rcR x lab S (some (.int k)) (some (wsD ws))) (rcF met acc :: S) := by
  have b := lab_rowG ok.1 ok.2
  rw [hL] at b
  unfold rcR rcF
  generalize wsD ws = W at *
  generalize labD lab = Lb at *
  simp only [rc2b, rc2b_e, lits]
  simp [b, ha]
theorem rc_bad (k : Nat) (ws : Words) (ok : okWs ws) (hL : isLab ws = false) (met : Words) (acc : List Int) (ha : acc.length < 256) (j : Nat) (ht : toldE lab ws j) : rc2b (rcR x lab S (some (.int k)) (some (wsD ws))) (rcF met acc :: S) = .err (invT k j) (rcR x lab S (some (.int k)) (some (wsD ws))) (rcF met acc :: S) := by
  have b := lab_rowG ok.1 ok.2
  rw [hL] at b
  have t := fun S => ht k S
  have n1 : acc.length ≤ 16000000 := by omega
  have n3 : ¬ ((acc.length : Int) = 256) := by omega
  unfold rcR rcF
  generalize wsD ws = W at *
  generalize labD lab = Lb at *
  simp only [rc2b, rc2b_e, lits]
  simp [b, t, n1, n3]
def RunTo (rows : Rows) (met : Words) (acc : List Int) (x4 x5 : Option D) : Except (Nat × Nat) (List Int) → Prop
  | .ok ns => ∃ x4' x5' met', forL (tgT [(tgN 4) , (tgN 5)]) rc2b (rows.map fdD) (rcR x lab S x4 x5) (rcF met acc :: S) = .nx (rcR x lab S x4' x5') (rcF met' ns :: S)
  | .error p => ∃ ρ fr, forL (tgT [(tgN 4) , (tgN 5)]) rc2b (rows.map fdD) (rcR x lab S x4 x5) (rcF met acc :: S) = .err (invT p.1 p.2) ρ (fr :: S)
theorem RunTo.step {k : Nat} {ws : Words} {r : Rows} {met met2 : Words} {acc acc2 : List Int} {x4 x5 : Option D} {out : Except (Nat × Nat) (List Int)} (b : rc2b (rcR x lab S (some (.int k)) (some (wsD ws))) (rcF met acc :: S) = .nx (rcR x lab S (some (.int k)) (some (wsD ws))) (rcF met2 acc2 :: S))
    (ih : RunTo x lab S r met2 acc2 (some (.int k)) (some (wsD ws)) out) : RunTo x lab S ((k, ws) :: r) met acc x4 x5 out := by
  have e : forL (tgT [(tgN 4) , (tgN 5)]) rc2b (((k, ws) :: r).map fdD) (rcR x lab S x4 x5) (rcF met acc :: S) = forL (tgT [(tgN 4) , (tgN 5)]) rc2b (r.map fdD) (rcR x lab S (some (.int k)) (some (wsD ws))) (rcF met2 acc2 :: S) := forL_nx (ρ1 := rcR x lab S (some (.int k)) (some (wsD ws))) rfl b
  cases out with
  | ok ns =>
    obtain ⟨a, b, c, d⟩ := ih
    exact ⟨a, b, c, e.trans d⟩
  | error p =>
    obtain ⟨a, b, d⟩ := ih
    exact ⟨a, b, e.trans d⟩
theorem RunTo.stop {k j : Nat} {ws : Words} {r : Rows} {met : Words} {acc : List Int} {x4 x5 : Option D} (b : rc2b (rcR x lab S (some (.int k)) (some (wsD ws))) (rcF met acc :: S) = .err (invT k j) (rcR x lab S (some (.int k)) (some (wsD ws))) (rcF met acc :: S)) : RunTo x lab S ((k, ws) :: r) met acc x4 x5 (.error (k, j)) :=
  ⟨_, _, forL_err (ρ1 := rcR x lab S (some (.int k)) (some (wsD ws))) rfl b⟩
theorem rc_run : ∀ {rows : Rows} {met : Words} {acc : List Int} {out : Except (Nat × Nat) (List Int)}, Reads lab rows met acc out → (∀ r ∈ rows, okWs r.2) → met.length + rows.length ≤ 16000000 → ∀ x4 x5, RunTo x lab S rows met acc x4 x5 out := by
  intro rows met acc out h
  have lo : ∀ {ws : Words}, okWs ws → isLab ws = true → ∃ v, ws = [v ++ [58]] ∧ labW v = true ∧ v.length + 1 ≤ 16000000 ∧ nameOf ws = v ∧ ws.headD [] = v ++ [58] := fun {ws} ok h => by
    obtain ⟨v, rfl, hv⟩ := isLab_one h
    have := ok.2 _ List.mem_cons_self
    exact ⟨v, rfl, hv, by simpa using this, by simp [nameOf], rfl⟩
  have sub : ∀ {p : Nat × Words} {r : Rows}, (∀ q ∈ p :: r, okWs q.2) → ∀ q ∈ r, okWs q.2 := fun h q hq => h q (List.mem_cons_of_mem _ hq)
  induction h with
  | nil => intro _ _ x4 x5; exact ⟨x4, x5, _, rfl⟩
  | @again k ws r met acc hL hm =>
    intro ok hl x4 x5
    obtain ⟨v, rfl, hv, lw, nm, hd⟩ := lo (ok _ List.mem_cons_self) hL
    rw [hd] at hm
    have hl' : met.length < 16000000 := by simp at hl; omega
    obtain ⟨q, hq⟩ : ∃ q, lookL lab v = some q ∨ lookL lab v = none := by
      cases h : lookL lab v with
      | none => exact ⟨0, .inr rfl⟩
      | some q => exact ⟨q, .inl rfl⟩
    refine RunTo.stop x lab S ?_
    have hL' := lab_rowG (ok _ List.mem_cons_self).1 (ok _ List.mem_cons_self).2
    rw [hL] at hL'
    have gm := gMem_top (metK met) (metV met) [.lst (acc.map D.int)] S (tx (v ++ [58]))
    rw [get_met, decide_eq_true hm] at gm
    unfold rcR rcF
    generalize labD lab = Lb at *
    simp only [rc2b, rc2b_t, lits]
    simp only at hL'
    simp [hL', gm]
  | @far k ws r met acc q hL hm hq h256 =>
    intro ok hl x4 x5
    obtain ⟨v, rfl, hv, lw, nm, hd⟩ := lo (ok _ List.mem_cons_self) hL
    rw [nm] at hq
    have b := rc_lab x lab S k v hv lw q hq met (by simp at hl; omega) acc
    rw [if_pos (.inr h256)] at b
    exact RunTo.stop x lab S b
  | @lab k ws r met acc q out hL hm hq h256 hr ih =>
    intro ok hl x4 x5
    obtain ⟨v, rfl, hv, lw, nm, hd⟩ := lo (ok _ List.mem_cons_self) hL
    rw [nm] at hq
    rw [hd] at hm ih
    have b := rc_lab x lab S k v hv lw q hq met (by simp at hl; omega) acc
    rw [if_neg (fun e => e.elim hm (fun e => by omega))] at b
    exact RunTo.step x lab S b (ih (sub ok) (by simp at hl ⊢; omega) _ _)
  | @full k ws r met acc hL ha =>
    intro ok hl x4 x5
    exact RunTo.stop x lab S (rc_full x lab S k ws (ok _ List.mem_cons_self) hL met acc ha)
  | @bad k ws r met acc j hL ha ht =>
    intro ok hl x4 x5
    exact RunTo.stop x lab S (rc_bad x lab S k ws (ok _ List.mem_cons_self) hL met acc ha j ht)
  | @row k ws r met acc v out hL ha ht hr ih =>
    intro ok hl x4 x5
    exact RunTo.step x lab S (rc_row x lab S k ws (ok _ List.mem_cons_self) hL met acc ha v ht) (ih (sub ok) (by simp at hl ⊢; omega) _ _)
def outR (out : Except (Nat × Nat) (List Int)) (S : Sto) : R D := match out with
  | .ok ns => .ok (.tup (ns.map D.int)) S
  | .error p => .err (invT p.1 p.2) S
theorem read_T {rows : Rows} {out : Except (Nat × Nat) (List Int)} (t : TextOk x rows) (h : Reads (labsL (rows.map Prod.snd) 0 []) rows [] [] out) (hl : ∀ ns, out = .ok ns → ns.length ≤ 16000000) : m_read_code [.str (tx x)] S = outR out S := by
  have Rw := rowsT_ok t
  have Lb := labelsT_ok t
  have L := rc_run x _ S h t.ok (by have := t.rl; simpa using this) none none
  show runF 6 c_read_code _ _ = _
  rw [runF_out, c_read_code_eq]
  simp only [List.map_cons, List.map_nil, List.length_cons, List.length_nil, List.replicate, List.cons_append, List.nil_append, Nat.reduceAdd, Nat.reduceSub, cSeq_eq]
  generalize labsL (rows.map Prod.snd) 0 [] = lb at *
  have e1 : rc1 [some (.str (tx x)), none, none, none, none, none] ([] :: S) = .nx (rcR x lb S none none) (rcF [] [] :: S) := by
    simp only [rc1, lits]
    unfold rcR rcF
    generalize labD lb = Lv at *
    simp [newAt, Lb, D.les, metK, metV]
  have e2 : rc2 (rcR x lb S none none) (rcF [] [] :: S) = forL (tgT [(tgN 4) , (tgN 5)]) rc2b (rows.map fdD) (rcR x lb S none none) (rcF [] [] :: S) := by
    unfold rcR
    simp only [rc2, lits]
    simp [Rw]
  rw [e1]
  simp only [RSt.andThen_nx, cSeq_eq]
  rw [e2]
  cases out with
  | ok ns =>
    obtain ⟨y4, y5, met, L⟩ := L
    rw [L]
    have e3 : rc3 (rcR x lb S y4 y5) (rcF met ns :: S) = .ret (.tup (ns.map D.int)) (rcF met ns :: S) := by
      unfold rcR rcF
      simp only [rc3, lits]
      simp [gTuple]
    simp only [RSt.andThen_nx, cSeq_eq]
    rw [e3, outF_ret]
    refine leave_flatD (n := 2) _ S (by decide) ?_
    simp only [D.flat, Bool.and_eq_true, decide_eq_true_eq, List.length_map]
    refine ⟨hl ns rfl, flats_of fun d hd => ?_⟩
    obtain ⟨i, _, rfl⟩ := List.mem_map.mp hd
    rfl
  | error p =>
    obtain ⟨ρ, fr, L⟩ := L
    rw [L]
    exact invT_leave p.1 p.2 fr S
end
end K26

namespace K26
open MP PySem L2
/-! ### rows that stand, and bent ones -/
def putV : List Nat → List Int → Tell → Tell
  | c :: g, v :: vs, t => putV g vs (t.put c v)
  | _, _, t => t
def partsV (lab : Labs) : List Nat → Words → Option (List Int)
  | [], [] => some []
  | c :: g, w :: ps => match partL w c lab with
    | some v => (partsV lab g ps).map (v :: ·)
    | none => none
  | _, _ => none
theorem partsV_len {lab : Labs} : ∀ {g : List Nat} {ps : Words} {vs : List Int}, partsV lab g ps = some vs → ps.length = g.length
  | [], [], _, _ => rfl
  | c :: g, w :: ps, vs, h => by
    rw [partsV] at h
    split at h
    · cases q : partsV lab g ps with
      | none => rw [q] at h; cases h
      | some us => have := partsV_len q; simp [this]
    · cases h
theorem tell_go (lab : Labs) (w0 : List Nat) (g2 : List Nat) : ∀ (g1 : List Nat) (ps1 : Words) (vs1 : List Int) (pre post : Words) (t : Tell), partsV lab g1 ps1 = some vs1 → tellL (w0 :: (pre ++ (ps1 ++ post))) lab (g1 ++ g2) pre.length t = tellL (w0 :: (pre ++ (ps1 ++ post))) lab g2 (pre.length + g1.length) (putV g1 vs1 t)
  | [], [], vs1, pre, post, t, h => by
    cases h
    simp [putV]
  | c :: g1, w :: ps1, vs1, pre, post, t, h => by
    rw [partsV] at h
    cases hv : partL w c lab with
    | none => rw [hv] at h; cases h
    | some v =>
      rw [hv] at h
      cases q : partsV lab g1 ps1 with
      | none => rw [q] at h; cases h
      | some us =>
        rw [q] at h
        cases h
        have hi : (w0 :: (pre ++ (w :: ps1 ++ post)))[pre.length + 1]? = some w := by simp
        have ih := tell_go lab w0 g2 g1 ps1 us (pre ++ [w]) post (t.put c v) q
        have e : (pre ++ [w]) ++ (ps1 ++ post) = pre ++ (w :: ps1 ++ post) := by simp
        rw [e, List.length_append, List.length_singleton] at ih
        show tellL (w0 :: (pre ++ (w :: ps1 ++ post))) lab (c :: (g1 ++ g2)) pre.length t = _
        rw [tellL, hi, Option.bind_some, hv]
        simp only
        rw [ih, putV]
        congr 1
        simp; omega
structure RowG (lab : Labs) (w0 : List Nat) (ps : Words) (v : Int) : Prop where
  ok : okWs (w0 :: ps)
  stands : ∃ o g m vs, opL w0 = some (o, g, m) ∧ (∀ c ∈ g, okC c) ∧ g.length ≤ 3 ∧ partsV lab g ps = some vs ∧ wholeT o g (putV g vs ⟨0, 0, m, none⟩) = some v
theorem tell_all {lab : Labs} {w0 : List Nat} {g : List Nat} {ps post : Words} {vs : List Int} (h : partsV lab g ps = some vs) (t : Tell) : tellL (w0 :: (ps ++ post)) lab g 0 t = .ok (putV g vs t) := by
  have := tell_go lab w0 [] g ps vs [] post t h
  simp only [List.nil_append, List.append_nil, List.length_nil] at this
  rw [this, tellL]
theorem RowG.told {lab : Labs} {w0 : List Nat} {ps : Words} {v : Int} (r : RowG lab w0 ps v) : told lab (w0 :: ps) v := fun row S => by
  obtain ⟨o, g, m, vs, h1, h2, h3, h4, h5⟩ := r.stands
  have ta := tell_all (w0 := w0) (post := []) h4 ⟨0, 0, m, none⟩
  rw [List.append_nil] at ta
  exact told_good row w0 ps lab S o m v g _ h1 (by omega) h2 r.ok.2 (partsV_len h4) ta h5
theorem RowG.more {lab : Labs} {w0 : List Nat} {ps : Words} {v : Int} (r : RowG lab w0 ps v) {x : List Nat} (hx : okWs (w0 :: (ps ++ [x]))) : toldE lab (w0 :: (ps ++ [x])) (ps.length + 1) := by
  obtain ⟨o, g, m, vs, h1, h2, h3, h4, h5⟩ := r.stands
  have ta := tell_all (w0 := w0) (post := [x]) h4 ⟨0, 0, m, none⟩
  have l := partsV_len h4
  have := told_E2 (lab := lab) h1 (by omega) h2 hx ta (by simp; omega)
  rw [l]; exact this
theorem bad_at {lab : Labs} {w0 : List Nat} {o m : Int} {g g1 g2 : List Nat} {c : Nat} {a b : Words} {x : List Nat} {vs : List Int} (h1 : opL w0 = some (o, g, m)) (h2 : ∀ c ∈ g, okC c) (h3 : g.length ≤ 3) (eg : g = g1 ++ c :: g2) (h4 : partsV lab g1 a = some vs) (hx : partL x c lab = none) (ok : okWs (w0 :: (a ++ x :: b))) : toldE lab (w0 :: (a ++ x :: b)) (a.length + 1) := by
  have l := partsV_len h4
  have := tell_go lab w0 (c :: g2) g1 a vs [] (x :: b) ⟨0, 0, m, none⟩ h4
  simp only [List.nil_append, List.length_nil, Nat.zero_add] at this
  have hi : (w0 :: (a ++ x :: b))[g1.length + 1]? = some x := by rw [← l]; simp
  rw [tellL, hi, Option.bind_some, hx, ← eg, ← l] at this
  exact told_E1 h1 (by omega) h2 ok this
theorem bad_short {lab : Labs} {w0 : List Nat} {o m : Int} {g g1 g2 : List Nat} {c : Nat} {a : Words} {vs : List Int} (h1 : opL w0 = some (o, g, m)) (h2 : ∀ c ∈ g, okC c) (h3 : g.length ≤ 3) (eg : g = g1 ++ c :: g2) (h4 : partsV lab g1 a = some vs) (ok : okWs (w0 :: a)) : toldE lab (w0 :: a) (a.length + 1) := by
  have l := partsV_len h4
  have := tell_go lab w0 (c :: g2) g1 a vs [] [] ⟨0, 0, m, none⟩ h4
  simp only [List.nil_append, List.length_nil, Nat.zero_add, List.append_nil] at this
  have hi : (w0 :: a)[g1.length + 1]? = none := by rw [← l]; simp
  rw [tellL, hi, ← eg, ← l] at this
  exact told_E1 h1 (by omega) h2 ok this
theorem partsV_split {lab : Labs} : ∀ {g : List Nat} {a b : Words} {vs : List Int}, partsV lab g (a ++ b) = some vs → ∃ g1 g2 v1 v2, g = g1 ++ g2 ∧ partsV lab g1 a = some v1 ∧ partsV lab g2 b = some v2
  | g, [], b, vs, h => ⟨[], g, [], vs, rfl, rfl, h⟩
  | [], w :: a, b, vs, h => by simp [partsV] at h
  | c :: g, w :: a, b, vs, h => by
    rw [List.cons_append, partsV] at h
    cases hv : partL w c lab with
    | none => rw [hv] at h; cases h
    | some v =>
      rw [hv] at h
      cases q : partsV lab g (a ++ b) with
      | none => rw [q] at h; cases h
      | some us =>
        obtain ⟨g1, g2, v1, v2, e1, e2, e3⟩ := partsV_split q
        exact ⟨c :: g1, g2, v :: v1, v2, by rw [e1]; rfl, by rw [partsV, hv, e2]; rfl, e3⟩
theorem RowG.less {lab : Labs} {w0 y : List Nat} {a : Words} {v : Int} (r : RowG lab w0 (a ++ [y]) v) : toldE lab (w0 :: a) (a.length + 1) := by
  obtain ⟨o, g, m, vs, h1, h2, h3, h4, h5⟩ := r.stands
  obtain ⟨g1, g2, v1, v2, e1, e2, e3⟩ := partsV_split h4
  have : g2.length = 1 := by have := partsV_len e3; simpa using this.symm
  obtain ⟨c, rfl⟩ := List.length_eq_one_iff.mp this
  refine bad_short h1 h2 h3 e1 e2 ⟨?_, fun w hw => r.ok.2 w ?_⟩
  · have := r.ok.1; simp at this ⊢; omega
  · rcases List.mem_cons.mp hw with rfl | hw
    · exact List.mem_cons_self
    · exact List.mem_cons_of_mem _ (List.mem_append_left _ hw)
theorem RowG.wrong {lab : Labs} {w0 y x : List Nat} {a b : Words} {v : Int} (r : RowG lab w0 (a ++ y :: b) v) (hx : ∀ c, okC c → partL x c lab = none) (lx : x.length ≤ 16000000) : toldE lab (w0 :: (a ++ x :: b)) (a.length + 1) := by
  obtain ⟨o, g, m, vs, h1, h2, h3, h4, h5⟩ := r.stands
  obtain ⟨g1, g2, v1, v2, e1, e2, e3⟩ := partsV_split h4
  cases g2 with
  | nil => simp [partsV] at e3
  | cons c g2 =>
    refine bad_at h1 h2 h3 e1 e2 (hx c (h2 c (by rw [e1]; simp))) ⟨?_, fun w hw => ?_⟩
    · have := r.ok.1; simp at this ⊢; omega
    · rcases List.mem_cons.mp hw with rfl | hw
      · exact r.ok.2 _ List.mem_cons_self
      · rcases List.mem_append.mp hw with hw | hw
        · exact r.ok.2 w (List.mem_cons_of_mem _ (List.mem_append_left _ hw))
        · rcases List.mem_cons.mp hw with rfl | hw
          · exact lx
          · exact r.ok.2 w (List.mem_cons_of_mem _ (List.mem_append_right _ (List.mem_cons_of_mem _ hw)))
end K26

namespace K26
open MP PySem L2
/-! ### the law's rows -/
def nameG (w : List Nat) : Bool := labW w && (w.take 1).all fun c => decide (97 ≤ c ∧ c ≤ 99)
def GoodLab (lab : Labs) : Prop := ∀ p ∈ lab, nameG p.1 = true ∧ 0 ≤ p.2 ∧ p.2 < 256
inductive It
  | lab (w : List Nat)
  | ins (n : Int) (o : Option (List Nat))
def PForm (n : Int) : Prop := ∃ g, (formP n).2 = g ++ [112]
def itW : It → Words
  | .lab w => [w ++ [58]]
  | .ins n none => rowW n
  | .ins n (some w) => (formP n).1 :: ((formP n).2.dropLast.map (partT n) ++ [w])
def itOk : It → Prop
  | .lab w => nameG w = true
  | .ins n none => 0 ≤ n ∧ n < 65536
  | .ins n (some w) => (0 ≤ n ∧ n < 65536) ∧ PForm n ∧ nameG w = true
theorem look_mem {w : List Nat} {q : Int} : ∀ {lab : Labs}, lookL lab w = some q → (w, q) ∈ lab
  | [], h => by cases h
  | p :: lab, h => by
    rw [lookL] at h
    by_cases e : p.1 = w
    · rw [if_pos e] at h; cases h; subst e; exact List.mem_cons_self
    · rw [if_neg e] at h; exact List.mem_cons_of_mem _ (look_mem h)
theorem look_none {lab : Labs} (h : GoodLab lab) {w : List Nat} (hw : nameG w = false) : lookL lab w = none := by
  cases q : lookL lab w with
  | none => rfl
  | some v => have := (h _ (look_mem q)).1; rw [hw] at this; cases this
theorem name_cons {w : List Nat} (h : nameG w = true) : ∃ c r, w = c :: r ∧ 97 ≤ c ∧ c ≤ 99 ∧ w.length ≤ 12 ∧ ∀ d ∈ w, isLet d = true ∨ isFig d = true := by
  unfold nameG labW at h
  cases w with
  | nil => simp at h
  | cons c r =>
    simp only [Bool.and_eq_true, decide_eq_true_eq, List.all_eq_true, Bool.or_eq_true] at h
    obtain ⟨⟨⟨⟨_, a⟩, _⟩, b⟩, d⟩ := h
    have := d c (by simp)
    exact ⟨c, r, rfl, this.1, this.2, a, b⟩
theorem num_noname (i : Int) : nameG (nT i) = false := by
  cases h : nameG (nT i) with
  | false => rfl
  | true =>
    obtain ⟨c, r, e, h1, h2, _⟩ := name_cons h
    have := nT_sign (i := i) c (by rw [e]; simp)
    have d := TL.numL_digits i.toNat c (by unfold nT at e; rw [e]; simp)
    omega
theorem name_num {w : List Nat} (h : nameG w = true) (l : Int) : numB w l = none := by
  obtain ⟨c, r, e, h1, h2, _⟩ := name_cons h
  refine if_neg fun z => ?_
  have := List.all_eq_true.mp z.2.2.1 c (by rw [e]; simp)
  simp [isFig] at this
  omega
theorem part_backL {lab : Labs} (hL : GoodLab lab) {n : Int} (h0 : 0 ≤ n) (h : n < 65536) {c : Nat} (hc : okC c) : partL (partT n c) c lab = some (pv n c) := by
  have b := part_back h0 h hc
  rcases hc with rfl | rfl | rfl | rfl | rfl
  · exact b
  · exact b
  · exact b
  · have e : partT n 112 = nT (iP n) := rfl
    rw [e] at b ⊢
    unfold partL at b ⊢
    rw [look_none hL (num_noname _)]
    exact b
  · exact b
theorem parts_backL {lab : Labs} (hL : GoodLab lab) {n : Int} (h0 : 0 ≤ n) (h : n < 65536) : ∀ g : List Nat, (∀ c ∈ g, okC c) → partsV lab g (g.map (partT n)) = some (g.map (pv n))
  | [], _ => rfl
  | c :: g, hg => by
    rw [List.map_cons, partsV, part_backL hL h0 h (hg c List.mem_cons_self), parts_backL hL h0 h g fun d hd => hg d (List.mem_cons_of_mem _ hd)]
    rfl
theorem putV_all (n : Int) : ∀ (g : List Nat) (t : Tell), putV g (g.map (pv n)) t = putAll n g t
  | [], _ => rfl
  | c :: g, t => by rw [List.map_cons, putV, putAll, putV_all n g]
theorem row_ok {n : Int} (h : n < 65536) : okWs (rowW n) := by
  obtain ⟨l1, l2, _, _⟩ := form_len n
  refine ⟨by simp [rowW]; omega, fun w hw => ?_⟩
  rcases List.mem_cons.mp hw with rfl | hw
  · omega
  · obtain ⟨c, _, rfl⟩ := List.mem_map.mp hw
    have := part_len h c
    omega
theorem rowG_none {lab : Labs} (hL : GoodLab lab) {n : Int} (h0 : 0 ≤ n) (h : n < 65536) : RowG lab (formP n).1 ((formP n).2.map (partT n)) n := by
  obtain ⟨o, m, e1, e2⟩ := form_back h0 h
  obtain ⟨l1, l2, _, _⟩ := form_len n
  exact ⟨row_ok h, o, (formP n).2, m, _, e1, ok_of, l1, parts_backL hL h0 h _ ok_of, by rw [putV_all]; exact e2⟩
theorem partsV_app {lab : Labs} : ∀ {g1 : List Nat} {a : Words} {v1 : List Int} {g2 : List Nat} {b : Words} {v2 : List Int}, partsV lab g1 a = some v1 → partsV lab g2 b = some v2 → partsV lab (g1 ++ g2) (a ++ b) = some (v1 ++ v2)
  | [], [], v1, g2, b, v2, h1, h2 => by cases h1; exact h2
  | c :: g1, w :: a, v1, g2, b, v2, h1, h2 => by
    rw [partsV] at h1
    cases hv : partL w c lab with
    | none => rw [hv] at h1; cases h1
    | some v =>
      rw [hv] at h1
      cases q : partsV lab g1 a with
      | none => rw [q] at h1; cases h1
      | some us =>
        rw [q] at h1
        cases h1
        rw [List.cons_append, List.cons_append, partsV, hv, partsV_app q h2]
        rfl
theorem putV_last (g : List Nat) (c : Nat) (q : Int) : ∀ (vs : List Int) (t : Tell), vs.length = g.length → putV (g ++ [c]) (vs ++ [q]) t = (putV g vs t).put c q := by
  induction g with
  | nil =>
    intro vs t h
    obtain rfl : vs = [] := List.length_eq_zero_iff.mp h
    rfl
  | cons d g ih =>
    intro vs t h
    cases vs with
    | nil => simp at h
    | cons v vs =>
      rw [List.cons_append, List.cons_append, putV, putV, ih vs _ (by simpa using h)]
theorem dropLast_form {n : Int} {g : List Nat} (e : (formP n).2 = g ++ [112]) : (formP n).2.dropLast = g := by rw [e, List.dropLast_concat]
theorem rowG_some {lab : Labs} (hL : GoodLab lab) {n : Int} (h0 : 0 ≤ n) (h : n < 65536) (hp : PForm n) {w : List Nat} {q : Int} (hw : w.length ≤ 12) (hq : lookL lab w = some q) : RowG lab (formP n).1 ((formP n).2.dropLast.map (partT n) ++ [w]) (n - n % 256 + q) := by
  obtain ⟨o, m, e1, e2⟩ := form_back h0 h
  obtain ⟨l1, l2, _, _⟩ := form_len n
  obtain ⟨g, eg⟩ := hp
  rw [dropLast_form eg]
  have okg : ∀ c ∈ g, okC c := fun c hc => ok_of c (by rw [eg]; exact List.mem_append_left _ hc)
  have hr := (hL _ (look_mem hq)).2
  simp only at hr
  have pw : partL w 112 lab = some q := by
    unfold partL
    rw [if_neg (by decide), if_pos rfl, hq]
    simp only
    rw [if_pos hr.2]
  refine ⟨⟨by rw [eg] at l1; simp at l1 ⊢; omega, fun u hu => ?_⟩, o, (formP n).2, m, _, e1, ok_of, l1, by rw [eg]; exact partsV_app (parts_backL hL h0 h g okg) (by rw [partsV, pw]; rfl), ?_⟩
  · rcases List.mem_cons.mp hu with rfl | hu
    · omega
    · rcases List.mem_append.mp hu with hu | hu
      · obtain ⟨c, _, rfl⟩ := List.mem_map.mp hu
        have := part_len h c
        omega
      · rw [List.mem_singleton] at hu; subst hu; omega
  · rw [← putV_all, eg, List.map_append, List.map_cons, List.map_nil, putV_last g 112 _ _ _ (by simp)] at e2
    rw [eg, putV_last g 112 _ _ _ (by simp)]
    have ne : ¬ g ++ [112] = [119] := by
      intro z
      have := congrArg List.getLast? z
      simp at this
    generalize putV g (g.map (pv n)) ⟨0, 0, m, none⟩ = t at *
    unfold wholeT at e2 ⊢
    rw [if_neg ne] at e2 ⊢
    have il := iP_lim n
    have ep : pv n 112 = iP n := rfl
    rw [ep] at e2
    simp only [Tell.put] at e2 ⊢
    simp at e2 ⊢
    unfold iP at e2 il
    obtain ⟨e3, e4⟩ := e2
    refine ⟨⟨e3.1, e3.2.1, e3.2.2.1, hr.1, hr.2⟩, ?_⟩
    omega
theorem noname_row {lab : Labs} (hL : GoodLab lab) {n : Int} (h0 : 0 ≤ n) (h : n < 65536) (hp : PForm n) {w : List Nat} (hw : nameG w = true) (hq : lookL lab w = none) : toldE lab (itW (.ins n (some w))) ((formP n).2.length) := by
  obtain ⟨o, m, e1, e2⟩ := form_back h0 h
  obtain ⟨l1, l2, _, _⟩ := form_len n
  obtain ⟨g, eg⟩ := hp
  obtain ⟨c, r, ew, _, _, lw, _⟩ := name_cons hw
  show toldE lab ((formP n).1 :: ((formP n).2.dropLast.map (partT n) ++ [w])) _
  rw [dropLast_form eg]
  have okg : ∀ c ∈ g, okC c := fun c hc => ok_of c (by rw [eg]; exact List.mem_append_left _ hc)
  have pw : partL w 112 lab = none := by
    unfold partL
    rw [if_neg (by decide), if_pos rfl, hq]
    exact name_num hw 256
  have := bad_at (b := []) e1 ok_of l1 (by rw [eg]) (parts_backL hL h0 h g okg) pw ⟨by rw [eg] at l1; simp at l1 ⊢; omega, fun u hu => by
    rcases List.mem_cons.mp hu with rfl | hu
    · omega
    · rcases List.mem_append.mp hu with hu | hu
      · obtain ⟨c, _, rfl⟩ := List.mem_map.mp hu
        have := part_len h c
        omega
      · rw [List.mem_singleton] at hu; subst hu; omega⟩
  have e : (formP n).2.length = (g.map (partT n)).length + 1 := by rw [eg]; simp
  rw [e]
  exact this
end K26

namespace K26
open MP PySem L2
/-! ### reading rows -/
theorem noLab_len {ws : Words} (h : ws.length ≠ 1) : isLab ws = false := by
  unfold isLab
  split
  · simp at h
  · rfl
theorem noLab_58 {ws : Words} (h : ∀ w ∈ ws, 58 ∉ w) : isLab ws = false := by
  unfold isLab
  split
  · rename_i w
    have : ¬ w.getLast? = some 58 := fun e => h w List.mem_cons_self (List.mem_of_getLast? e)
    simp [this]
  · rfl
theorem isLab_lab {w : List Nat} (h : nameG w = true) : isLab [w ++ [58]] = true := by
  unfold nameG at h
  rw [Bool.and_eq_true] at h
  unfold isLab
  simp [h.1]
theorem nameOf_lab (w : List Nat) : nameOf [w ++ [58]] = w := by simp [nameOf]
theorem isLab_ins {n : Int} {o : Option (List Nat)} (h : itOk (.ins n o)) : isLab (itW (.ins n o)) = false := by
  cases o with
  | none =>
    refine noLab_58 fun w hw hm => ?_
    have := ((row_clean n).2 w hw).2 58 hm
    omega
  | some w =>
    refine noLab_len ?_
    simp [itW]
def Fine (lab : Labs) (ws : Words) : Prop := (isLab ws = true ∧ ∃ v, lookL lab (nameOf ws) = some v ∧ v < 256) ∨ (isLab ws = false ∧ ∃ v, told lab ws v)
def heads (rows : List Words) : Words := (rows.filter isLab).map fun ws => ws.headD []
def FineV (lab : Labs) : List Words → List Int → Prop
  | [], vs => vs = []
  | ws :: r, vs => (isLab ws = true ∧ (∃ v, lookL lab (nameOf ws) = some v ∧ v < 256) ∧ FineV lab r vs) ∨ (isLab ws = false ∧ ∃ v vs', vs = v :: vs' ∧ told lab ws v ∧ FineV lab r vs')
theorem heads_cons (ws : Words) (r : List Words) : heads (ws :: r) = if isLab ws = true then ws.headD [] :: heads r else heads r := by
  unfold heads
  rw [List.filter_cons]
  split <;> rfl
theorem reads_all {lab : Labs} : ∀ {rows : List Words} {nums : List Nat} {met : Words} {acc vs : List Int}, nums.length = rows.length → FineV lab rows vs → (met ++ heads rows).Nodup → acc.length + rows.length ≤ 256 → Reads lab (nums.zip rows) met acc (.ok (acc ++ vs))
  | [], nums, met, acc, vs, _, h, _, _ => by
    cases h
    rw [List.append_nil, List.zip_nil_right]
    exact .nil
  | ws :: r, k :: nums, met, acc, vs, hl, h, hn, ha => by
    rw [List.zip_cons_cons]
    simp only [List.length_cons] at hl ha
    rw [heads_cons] at hn
    rcases h with ⟨h1, ⟨v, h2, h3⟩, h4⟩ | ⟨h1, v, vs', rfl, h3, h4⟩
    · rw [if_pos h1] at hn
      have nm : ws.headD [] ∉ met := fun hm => (List.nodup_append.mp hn).2.2 _ hm _ List.mem_cons_self rfl
      exact .lab h1 nm h2 h3 (reads_all (by omega) h4 (by rw [List.append_assoc]; exact hn) (by omega))
    · rw [h1, if_neg (by decide)] at hn
      have := reads_all (nums := nums) (acc := acc ++ [v]) (by omega) h4 hn (by simp; omega)
      rw [List.append_assoc] at this
      exact .row h1 (by omega) h3 this
theorem reads_fail {lab : Labs} {bad : Words} {post : List Words} {j : Nat} : ∀ {pre : List Words} {nums : List Nat} {met : Words} {acc : List Int}, nums.length = (pre ++ bad :: post).length → (∀ ws ∈ pre, Fine lab ws) → (met ++ heads pre).Nodup → acc.length + pre.length < 256 →
    ((isLab bad = false ∧ toldE lab bad j) ∨ (isLab bad = true ∧ j = 0 ∧ bad.headD [] ∈ met ++ heads pre)) → Reads lab (nums.zip (pre ++ bad :: post)) met acc (.error (nums.getD pre.length 0, j))
  | [], k :: nums, met, acc, hl, h, hn, ha, hb => by
    rw [List.nil_append, List.zip_cons_cons]
    rcases hb with ⟨b1, b2⟩ | ⟨b1, rfl, b2⟩
    · exact .bad b1 (by simpa using ha) b2
    · refine .again b1 ?_
      simpa [heads] using b2
  | ws :: pre, k :: nums, met, acc, hl, h, hn, ha, hb => by
    rw [List.cons_append, List.zip_cons_cons]
    simp only [List.cons_append, List.length_cons] at hl ha
    rw [heads_cons] at hn hb
    have e : (k :: nums).getD (ws :: pre).length 0 = nums.getD pre.length 0 := by simp
    rw [e]
    have hs : ∀ ws ∈ pre, Fine lab ws := fun w hw => h w (List.mem_cons_of_mem _ hw)
    rcases h ws List.mem_cons_self with ⟨h1, v, h2, h3⟩ | ⟨h1, v, h3⟩
    · rw [if_pos h1] at hn hb
      have nm : ws.headD [] ∉ met := fun hm => (List.nodup_append.mp hn).2.2 _ hm _ List.mem_cons_self rfl
      exact .lab h1 nm h2 h3 (reads_fail (by omega) hs (by rw [List.append_assoc]; exact hn) (by omega) (by rw [List.append_assoc]; exact hb))
    · rw [h1, if_neg (by decide)] at hn hb
      exact .row h1 (by omega) h3 (reads_fail (acc := acc ++ [v]) (by omega) hs hn (by simp; omega) hb)
/-! the labels of items -/
def labsI : List It → Int → Labs
  | [], _ => []
  | .lab w :: r, p => (w, p) :: labsI r p
  | .ins _ _ :: r, p => labsI r (p + 1)
def namesI : List It → Words
  | [] => []
  | .lab w :: r => w :: namesI r
  | .ins _ _ :: r => namesI r
theorem look_app {w : List Nat} : ∀ (a b : Labs), lookL (a ++ b) w = match lookL a w with | some v => some v | none => lookL b w
  | [], b => rfl
  | p :: a, b => by
    rw [List.cons_append, lookL, lookL, look_app a b]
    split <;> rfl
theorem look_keys {w : List Nat} : ∀ {a : Labs}, w ∉ a.map Prod.fst → lookL a w = none
  | [], _ => rfl
  | p :: a, h => by
    rw [List.map_cons, List.mem_cons, not_or] at h
    rw [lookL, if_neg (fun e => h.1 e.symm), look_keys h.2]
theorem labsL_items : ∀ (its : List It) (p : Int) (lab : Labs), (∀ i ∈ its, itOk i) → (lab.map Prod.fst ++ namesI its).Nodup → labsL (its.map itW) p lab = lab ++ labsI its p
  | [], p, lab, _, _ => by simp [labsL, labsI]
  | .lab w :: r, p, lab, ok, hn => by
    have o := ok _ List.mem_cons_self
    have nm : w ∉ lab.map Prod.fst := fun hm => (List.nodup_append.mp hn).2.2 _ hm _ List.mem_cons_self rfl
    have e : setL lab w p = lab ++ [(w, p)] := by unfold setL; rw [look_keys nm]
    rw [List.map_cons, labsL]
    show (if isLab [w ++ [58]] = true then labsL (r.map itW) p (setL lab (nameOf [w ++ [58]]) p) else _) = _
    rw [if_pos (isLab_lab o), nameOf_lab, e, labsL_items r p _ (fun i hi => ok i (List.mem_cons_of_mem _ hi)) (by
      rw [List.map_append, List.append_assoc]; exact hn), labsI, List.append_assoc]
    rfl
  | .ins n o :: r, p, lab, ok, hn => by
    rw [List.map_cons, labsL, isLab_ins (ok _ List.mem_cons_self), if_neg (by decide), labsL_items r _ lab (fun i hi => ok i (List.mem_cons_of_mem _ hi)) hn, labsI]
theorem labsI_names : ∀ (its : List It) (p : Int), (labsI its p).map Prod.fst = namesI its
  | [], _ => rfl
  | .lab w :: r, p => by rw [labsI, namesI, List.map_cons, labsI_names r p]
  | .ins n o :: r, p => by rw [labsI, namesI, labsI_names r (p + 1)]
theorem labsI_good : ∀ (its : List It) (p : Int), 0 ≤ p → p + its.length < 256 → (∀ i ∈ its, itOk i) → GoodLab (labsI its p)
  | [], p, _, _, _ => fun q hq => by simp [labsI] at hq
  | .lab w :: r, p, h0, h, ok => fun q hq => by
    rw [labsI] at hq
    simp only [List.length_cons] at h
    rcases List.mem_cons.mp hq with rfl | hq
    · exact ⟨ok _ List.mem_cons_self, h0, by simp only; omega⟩
    · exact labsI_good r p h0 (by omega) (fun i hi => ok i (List.mem_cons_of_mem _ hi)) q hq
  | .ins n o :: r, p, h0, h, ok => fun q hq => by
    rw [labsI] at hq
    simp only [List.length_cons] at h
    exact labsI_good r (p + 1) (by omega) (by omega) (fun i hi => ok i (List.mem_cons_of_mem _ hi)) q hq
theorem labsI_app : ∀ (a b : List It) (p : Int), labsI (a ++ b) p = labsI a p ++ labsI b (p + (a.filter fun i => match i with | .ins _ _ => true | _ => false).length)
  | [], b, p => by simp [labsI]
  | .lab w :: a, b, p => by
    rw [List.cons_append, labsI, labsI, labsI_app a b p]
    simp
  | .ins n o :: a, b, p => by
    rw [List.cons_append, labsI, labsI, labsI_app a b (p + 1)]
    simp
    congr 1
    omega
end K26

namespace K26
open MP PySem L2
/-! ### the law's rows are read, bent ones are refused -/
structure GoodR (its : List It) (pl : Labs) : Prop where
  ok : ∀ i ∈ its, itOk i
  nd : (namesI its).Nodup
  len : its.length ≤ 20
  pls : ∀ p ∈ labsI its 0, lookL pl p.1 = some p.2
  plen : pl.length = (labsI its 0).length
  ref : ∀ n w, .ins n (some w) ∈ its → w ∈ namesI its
def codeI (pl : Labs) : List It → List Int
  | [] => []
  | .lab _ :: r => codeI pl r
  | .ins n none :: r => n :: codeI pl r
  | .ins n (some w) :: r => (n - n % 256 + (lookL pl w).getD 0) :: codeI pl r
theorem look_in {w : List Nat} : ∀ {lab : Labs}, w ∈ lab.map Prod.fst → ∃ q, lookL lab w = some q
  | p :: lab, h => by
    rw [lookL]
    by_cases e : p.1 = w
    · exact ⟨p.2, if_pos e⟩
    · rw [if_neg e]
      rw [List.map_cons, List.mem_cons] at h
      exact look_in (h.elim (fun z => absurd z.symm e) id)
theorem heads_items : ∀ (its : List It), (∀ i ∈ its, itOk i) → heads (its.map itW) = (namesI its).map (· ++ [58])
  | [], _ => rfl
  | .lab w :: r, ok => by
    rw [List.map_cons, heads_cons]
    show (if isLab [w ++ [58]] = true then [w ++ [58]].headD [] :: heads (r.map itW) else _) = _
    rw [if_pos (isLab_lab (ok _ List.mem_cons_self)), heads_items r fun i hi => ok i (List.mem_cons_of_mem _ hi)]
    rfl
  | .ins n o :: r, ok => by
    rw [List.map_cons, heads_cons, isLab_ins (ok _ List.mem_cons_self), if_neg (by decide), heads_items r fun i hi => ok i (List.mem_cons_of_mem _ hi)]
    rfl
theorem nodup_colon {ws : Words} (h : ws.Nodup) : (ws.map (· ++ [58])).Nodup := by
  induction ws with
  | nil => simp
  | cons w ws ih =>
    rw [List.nodup_cons] at h
    rw [List.map_cons, List.nodup_cons]
    refine ⟨fun hm => ?_, ih h.2⟩
    obtain ⟨v, hv, e⟩ := List.mem_map.mp hm
    have : v = w := List.append_cancel_right e
    subst this
    exact h.1 hv
theorem names_in {w : List Nat} : ∀ {its : List It}, .lab w ∈ its → w ∈ namesI its
  | .lab v :: r, h => by
    rw [namesI]
    rcases List.mem_cons.mp h with e | h
    · cases e; exact List.mem_cons_self
    · exact List.mem_cons_of_mem _ (names_in h)
  | .ins n o :: r, h => by
    rw [namesI]
    rcases List.mem_cons.mp h with e | h
    · cases e
    · exact names_in h
/-- an item that stands under a table -/
def Stands (lab : Labs) : It → Prop
  | .lab w => ∃ q, lookL lab w = some q
  | .ins _ none => True
  | .ins _ (some w) => ∃ q, lookL lab w = some q
theorem name_len {w : List Nat} (h : nameG w = true) : w.length ≤ 12 := by
  obtain ⟨c, r, _, _, _, l, _⟩ := name_cons h
  exact l
theorem fine_item {lab : Labs} (hL : GoodLab lab) {i : It} (ok : itOk i) (h : Stands lab i) : Fine lab (itW i) := by
  cases i with
  | lab w =>
    obtain ⟨q, hq⟩ := h
    exact .inl ⟨isLab_lab ok, q, by show lookL lab (nameOf [w ++ [58]]) = _; rw [nameOf_lab]; exact hq, (hL _ (look_mem hq)).2.2⟩
  | ins n o =>
    refine .inr ⟨isLab_ins ok, ?_⟩
    cases o with
    | none => exact ⟨n, (rowG_none hL ok.1 ok.2).told⟩
    | some w =>
      obtain ⟨q, hq⟩ := h
      exact ⟨_, (rowG_some hL ok.1.1 ok.1.2 ok.2.1 (name_len ok.2.2) hq).told⟩
theorem fineV_items {lab pl : Labs} (hL : GoodLab lab) : ∀ (its : List It), (∀ i ∈ its, itOk i) → (∀ i ∈ its, Stands lab i) → (∀ n w q, .ins n (some w) ∈ its → lookL lab w = some q → lookL pl w = some q) → FineV lab (its.map itW) (codeI pl its)
  | [], _, _, _ => rfl
  | .lab w :: r, ok, st, hp => by
    obtain ⟨q, hq⟩ := st _ List.mem_cons_self
    exact .inl ⟨isLab_lab (ok _ List.mem_cons_self), ⟨q, by show lookL lab (nameOf [w ++ [58]]) = _; rw [nameOf_lab]; exact hq, (hL _ (look_mem hq)).2.2⟩,
      fineV_items hL r (fun i hi => ok i (List.mem_cons_of_mem _ hi)) (fun i hi => st i (List.mem_cons_of_mem _ hi)) fun n w q hm => hp n w q (List.mem_cons_of_mem _ hm)⟩
  | .ins n none :: r, ok, st, hp => by
    have o := ok _ List.mem_cons_self
    exact .inr ⟨isLab_ins o, n, _, rfl, (rowG_none hL o.1 o.2).told, fineV_items hL r (fun i hi => ok i (List.mem_cons_of_mem _ hi)) (fun i hi => st i (List.mem_cons_of_mem _ hi)) fun n w q hm => hp n w q (List.mem_cons_of_mem _ hm)⟩
  | .ins n (some w) :: r, ok, st, hp => by
    have o := ok _ List.mem_cons_self
    obtain ⟨q, hq⟩ := st _ List.mem_cons_self
    have e := hp n w q List.mem_cons_self hq
    have t := (rowG_some hL o.1.1 o.1.2 o.2.1 (name_len o.2.2) hq).told
    refine .inr ⟨isLab_ins o, n - n % 256 + q, codeI pl r, by rw [codeI, e]; rfl, t, fineV_items hL r (fun i hi => ok i (List.mem_cons_of_mem _ hi)) (fun i hi => st i (List.mem_cons_of_mem _ hi)) fun n w q hm => hp n w q (List.mem_cons_of_mem _ hm)⟩
section
variable {its : List It} {pl : Labs}
theorem GoodR.labs (g : GoodR its pl) : labsL (its.map itW) 0 [] = labsI its 0 := by
  have := labsL_items its 0 [] g.ok (by simpa using g.nd)
  simpa using this
theorem GoodR.good (g : GoodR its pl) : GoodLab (labsI its 0) := labsI_good its 0 (by decide) (by have := g.len; omega) g.ok
theorem GoodR.stands (g : GoodR its pl) : ∀ i ∈ its, Stands (labsI its 0) i := fun i hi => by
  cases i with
  | lab w => exact look_in (by rw [labsI_names]; exact names_in hi)
  | ins n o =>
    cases o with
    | none => exact trivial
    | some w => exact look_in (by rw [labsI_names]; exact g.ref n w hi)
theorem GoodR.nodup (g : GoodR its pl) : (heads (its.map itW)).Nodup := by rw [heads_items its g.ok]; exact nodup_colon g.nd
theorem GoodR.reads (g : GoodR its pl) {nums : List Nat} (hl : nums.length = its.length) : Reads (labsL (its.map itW) 0 []) (nums.zip (its.map itW)) [] [] (.ok (codeI pl its)) := by
  rw [g.labs]
  have := reads_all (lab := labsI its 0) (nums := nums) (met := []) (acc := []) (by rw [hl, List.length_map]) (fineV_items (pl := pl) g.good its g.ok g.stands fun n w q _ hq => g.pls _ (look_mem hq)) (by simpa using g.nodup) (by have := g.len; simp; omega)
  simpa using this
/-- one row that cannot stand among those that do; the labels stay -/
theorem GoodR.row_bad (g : GoodR its pl) {pre post : List It} {i : It} {n : Int} {o : Option (List Nat)} (e : its = pre ++ i :: post) (hi : i = .ins n o) {bad : Words} {j : Nat} (hb : isLab bad = false) (ht : toldE (labsI its 0) bad j) {nums : List Nat} (hl : nums.length = its.length) :
    Reads (labsL ((pre.map itW) ++ bad :: post.map itW) 0 []) (nums.zip (pre.map itW ++ bad :: post.map itW)) [] [] (.error (nums.getD pre.length 0, j)) := by
  have same : ∀ (a : List Words) (p : Int) (lab : Labs) (r : List Words), labsL (a ++ bad :: r) p lab = labsL (a ++ itW i :: r) p lab := by
    intro a
    induction a with
    | nil =>
      intro p lab r
      have : isLab (itW i) = false := by rw [hi]; exact isLab_ins (by rw [← hi]; exact g.ok i (by rw [e]; simp))
      rw [List.nil_append, List.nil_append, labsL, labsL, hb, this, if_neg (by decide), if_neg (by decide)]
    | cons w a ih =>
      intro p lab r
      rw [List.cons_append, List.cons_append, labsL, labsL, ih, ih]
  rw [same]
  have e2 : its.map itW = pre.map itW ++ itW i :: post.map itW := by rw [e]; simp
  rw [← e2, g.labs]
  have nd := g.nodup
  have hd : heads (its.map itW) = heads (pre.map itW) ++ heads (itW i :: post.map itW) := by rw [e2]; unfold heads; rw [List.filter_append, List.map_append]
  rw [hd] at nd
  have := reads_fail (lab := labsI its 0) (bad := bad) (post := post.map itW) (j := j) (pre := pre.map itW) (nums := nums) (met := []) (acc := []) (by rw [hl, e]; simp) (fun ws hws => by
    obtain ⟨i', hi', rfl⟩ := List.mem_map.mp hws
    have hm : i' ∈ its := by rw [e]; exact List.mem_append_left _ hi'
    exact fine_item g.good (g.ok _ hm) (g.stands _ hm)) (by simpa using (List.nodup_append.mp nd).1) (by
    have := g.len
    rw [e] at this
    simp at this ⊢; omega) (.inl ⟨hb, ht⟩)
  simpa using this
/-- a row put behind -/
theorem labsL_snoc (ws : Words) : ∀ (a : List Words) (p : Int) (lab : Labs), (isLab ws = false ∨ ∃ q, lookL (labsL a p lab) (nameOf ws) = some q) → labsL (a ++ [ws]) p lab = labsL a p lab
  | [], p, lab, h => by
    show (if isLab ws = true then setL lab (nameOf ws) p else lab) = lab
    split
    · rename_i hL
      rcases h with h | ⟨q, h⟩
      · rw [h] at hL; cases hL
      · have h' : lookL lab (nameOf ws) = some q := h
        unfold setL
        rw [h']
    · rfl
  | w :: a, p, lab, h => by
    rw [List.cons_append, labsL, labsL]
    rw [labsL] at h
    split
    · rename_i hL
      rw [if_pos hL] at h
      exact labsL_snoc ws a _ _ h
    · rename_i hL
      rw [if_neg hL] at h
      exact labsL_snoc ws a _ _ h
theorem GoodR.end_bad (g : GoodR its pl) {bad : Words} {j : Nat} (hb : (isLab bad = false ∧ toldE (labsI its 0) bad j) ∨ (isLab bad = true ∧ j = 0 ∧ ∃ w, .lab w ∈ its ∧ bad = [w ++ [58]])) {nums : List Nat} (hl : nums.length = its.length + 1) :
    Reads (labsL (its.map itW ++ [bad]) 0 []) (nums.zip (its.map itW ++ [bad])) [] [] (.error (nums.getD its.length 0, j)) := by
  have la : labsL (its.map itW ++ [bad]) 0 [] = labsI its 0 := by
    rw [labsL_snoc, g.labs]
    rcases hb with ⟨h, _⟩ | ⟨_, _, w, hw, rfl⟩
    · exact .inl h
    · refine .inr ?_
      rw [g.labs, nameOf_lab]
      exact g.stands _ hw
  rw [la]
  have := reads_fail (lab := labsI its 0) (bad := bad) (post := []) (j := j) (pre := its.map itW) (nums := nums) (met := []) (acc := []) (by rw [hl]; simp) (fun ws hws => by
    obtain ⟨i', hi', rfl⟩ := List.mem_map.mp hws
    exact fine_item g.good (g.ok _ hi') (g.stands _ hi')) (by simpa using g.nodup) (by
    have := g.len
    simp; omega) (by
    rcases hb with h | ⟨h1, h2, w, hw, rfl⟩
    · exact .inl h
    · refine .inr ⟨h1, h2, ?_⟩
      rw [heads_items its g.ok, List.nil_append]
      exact List.mem_map.mpr ⟨w, names_in hw, rfl⟩)
  simpa using this
end
end K26

namespace K26
open MP PySem L2
/-! ### a label bent -/
def badN (w : List Nat) : Words := [57 :: (w ++ [58])]
theorem badN_lab (w : List Nat) : isLab (badN w) = false := by
  unfold badN isLab
  have e : (57 :: (w ++ [58])).dropLast = 57 :: w := by rw [← List.cons_append, List.dropLast_concat]
  simp only [e]
  unfold labW
  simp [isLet]
theorem badN_told (lab : Labs) (w : List Nat) : toldE lab (badN w) 0 := told_E0 (by
  unfold opL aluI
  simp [lookF, F, wordW])
def wantedL (w : List Nat) : List Words → Nat → List (Nat × Nat)
  | [], _ => []
  | ws :: r, k => if 1 < ws.length ∧ ws.getLast? = some w then (k, ws.length - 1) :: wantedL w r (k + 1) else wantedL w r (k + 1)
def uses (w : List Nat) : It → Prop
  | .ins _ (some v) => v = w
  | _ => False
theorem part_first {n : Int} (c : Nat) : ∃ d r, partT n c = d :: r ∧ (d = 114 ∨ (48 ≤ d ∧ d ≤ 57)) := by
  have go : ∀ i : Int, ∃ d r, nT i = d :: r ∧ (d = 114 ∨ (48 ≤ d ∧ d ≤ 57)) := fun i => by
    cases h : nT i with
    | nil => exact absurd h (TL.numL_ne _)
    | cons d r =>
      have := TL.numL_digits i.toNat d (by unfold nT at h; rw [h]; simp)
      exact ⟨d, r, rfl, .inr (by omega)⟩
  unfold partT
  split
  · exact ⟨114, _, rfl, .inl rfl⟩
  · split
    · exact ⟨114, _, rfl, .inl rfl⟩
    · split <;> exact go _
theorem uses_iff {w : List Nat} (hw : nameG w = true) {i : It} (ok : itOk i) : (1 < (itW i).length ∧ (itW i).getLast? = some w) ↔ uses w i := by
  obtain ⟨c, r, ew, c1, c2, _⟩ := name_cons hw
  cases i with
  | lab v => simp [itW, uses]
  | ins n o =>
    cases o with
    | none =>
      simp only [itW, uses, iff_false, not_and]
      intro h1 h2
      unfold rowW at h1 h2
      have ne : (formP n).2 ≠ [] := by intro e; rw [e] at h1; simp at h1
      obtain ⟨g, c0, eg⟩ : ∃ g c0, (formP n).2 = g ++ [c0] := by
        rcases List.eq_nil_or_concat (formP n).2 with e | ⟨g, c0, e⟩
        · exact absurd e ne
        · exact ⟨g, c0, by simpa using e⟩
      rw [eg, List.map_append, List.map_cons, List.map_nil, ← List.cons_append, List.getLast?_concat] at h2
      obtain ⟨d, r', ed, hd⟩ := part_first (n := n) c0
      rw [ed] at h2
      cases h2
      cases ew
      omega
    | some v =>
      simp only [itW, uses]
      rw [← List.cons_append, List.getLast?_concat]
      constructor
      · rintro ⟨_, h⟩; cases h; rfl
      · rintro rfl; exact ⟨by simp, rfl⟩
theorem wanted_app {w : List Nat} : ∀ (a b : List Words) (k : Nat), wantedL w (a ++ b) k = wantedL w a k ++ wantedL w b (k + a.length)
  | [], b, k => by simp [wantedL]
  | ws :: a, b, k => by
    rw [List.cons_append, wantedL, wantedL, wanted_app a b (k + 1)]
    have : k + 1 + a.length = k + (ws :: a).length := by simp; omega
    rw [this]
    split <;> rfl
theorem wanted_none {w : List Nat} (hw : nameG w = true) : ∀ (a : List It) (k : Nat), (∀ i ∈ a, itOk i) → (∀ i ∈ a, ¬ uses w i) → wantedL w (a.map itW) k = []
  | [], _, _, _ => rfl
  | i :: a, k, ok, h => by
    rw [List.map_cons, wantedL, if_neg (fun e => h i List.mem_cons_self ((uses_iff hw (ok i List.mem_cons_self)).mp e))]
    exact wanted_none hw a (k + 1) (fun j hj => ok j (List.mem_cons_of_mem _ hj)) fun j hj => h j (List.mem_cons_of_mem _ hj)
theorem wanted_ge {w : List Nat} : ∀ (a : List Words) (k : Nat), ∀ p ∈ wantedL w a k, k ≤ p.1
  | [], _, p, hp => by simp [wantedL] at hp
  | ws :: a, k, p, hp => by
    rw [wantedL] at hp
    split at hp
    · rcases List.mem_cons.mp hp with rfl | hp
      · exact Nat.le_refl _
      · have := wanted_ge a (k + 1) p hp; omega
    · have := wanted_ge a (k + 1) p hp; omega
/-- the first item that uses w -/
theorem first_use (w : List Nat) : ∀ pre : List It, (∀ i ∈ pre, ¬ uses w i) ∨ ∃ a n b, pre = a ++ .ins n (some w) :: b ∧ ∀ i ∈ a, ¬ uses w i
  | [] => .inl fun i hi => by simp at hi
  | i :: pre => by
    by_cases h : uses w i
    · cases i with
      | lab v => exact h.elim
      | ins n o =>
        cases o with
        | none => exact h.elim
        | some v =>
          have : v = w := h
          subst this
          exact .inr ⟨[], n, pre, rfl, fun j hj => by simp at hj⟩
    · rcases first_use w pre with h2 | ⟨a, n, b, rfl, h2⟩
      · refine .inl fun j hj => ?_
        rcases List.mem_cons.mp hj with rfl | hj
        · exact h
        · exact h2 j hj
      · refine .inr ⟨i :: a, n, b, rfl, fun j hj => ?_⟩
        rcases List.mem_cons.mp hj with rfl | hj
        · exact h
        · exact h2 j hj
theorem namesI_app : ∀ a b : List It, namesI (a ++ b) = namesI a ++ namesI b
  | [], _ => rfl
  | .lab w :: a, b => by rw [List.cons_append, namesI, namesI, namesI_app a b]; rfl
  | .ins n o :: a, b => by rw [List.cons_append, namesI, namesI, namesI_app a b]
section
variable {its : List It} {pl : Labs}
/-- what is told first, where the label w is bent -/
def firstOf (w : List Nat) (bent : List Words) (k : Nat) : Nat × Nat := match wantedL w bent 0 with
  | [] => (k, 0)
  | p :: _ => if p.1 < k then p else (k, 0)
theorem GoodR.name_bad (g : GoodR its pl) {pre post : List It} {w : List Nat} (e : its = pre ++ .lab w :: post) {nums : List Nat} (hl : nums.length = its.length) :
    Reads (labsL (pre.map itW ++ badN w :: post.map itW) 0 []) (nums.zip (pre.map itW ++ badN w :: post.map itW)) [] [] (.error (nums.getD (firstOf w (pre.map itW ++ badN w :: post.map itW) pre.length).1 0, (firstOf w (pre.map itW ++ badN w :: post.map itW) pre.length).2)) := by
  have hw : nameG w = true := g.ok (.lab w) (by rw [e]; simp)
  have ok0 : itOk (.ins 0 none) := ⟨by decide, by decide⟩
  have okp : ∀ i ∈ pre, itOk i := fun i hi => g.ok i (by rw [e]; exact List.mem_append_left _ hi)
  have okq : ∀ i ∈ post, itOk i := fun i hi => g.ok i (by rw [e]; exact List.mem_append_right _ (List.mem_cons_of_mem _ hi))
  have ok' : ∀ i ∈ pre ++ .ins 0 none :: post, itOk i := fun i hi => by
    rcases List.mem_append.mp hi with hi | hi
    · exact okp i hi
    · rcases List.mem_cons.mp hi with rfl | hi
      · exact ok0
      · exact okq i hi
  have nd := g.nd
  rw [e, namesI_app] at nd
  have nd' : (namesI (pre ++ .ins 0 none :: post)).Nodup := by
    rw [namesI_app]
    exact nd.sublist (List.Sublist.append (List.Sublist.refl _) (List.sublist_cons_self _ _))
  have nin : w ∉ namesI (pre ++ .ins 0 none :: post) := by
    rw [namesI_app]
    intro hm
    obtain ⟨n1, n2, n3⟩ := List.nodup_append.mp nd
    rcases List.mem_append.mp hm with hm | hm
    · exact n3 w hm w List.mem_cons_self rfl
    · exact (List.nodup_cons.mp n2).1 hm
  have lt := g.len
  rw [e] at lt
  simp only [List.length_append, List.length_cons] at lt
  have same : ∀ (a : List Words) (p : Int) (lab : Labs) (r : List Words), labsL (a ++ badN w :: r) p lab = labsL (a ++ itW (.ins 0 none) :: r) p lab := by
    intro a
    induction a with
    | nil =>
      intro p lab r
      rw [List.nil_append, List.nil_append, labsL, labsL, badN_lab, isLab_ins ok0, if_neg (by decide), if_neg (by decide)]
    | cons u a ih =>
      intro p lab r
      rw [List.cons_append, List.cons_append, labsL, labsL, ih, ih]
  have la : labsL (pre.map itW ++ badN w :: post.map itW) 0 [] = labsI (pre ++ .ins 0 none :: post) 0 := by
    rw [same]
    have := labsL_items (pre ++ .ins 0 none :: post) 0 [] ok' (by simpa using nd')
    rw [List.map_append, List.map_cons] at this
    simpa using this
  rw [la]
  have gl : GoodLab (labsI (pre ++ .ins 0 none :: post) 0) := labsI_good _ 0 (by decide) (by simp; omega) ok'
  have noW : lookL (labsI (pre ++ .ins 0 none :: post) 0) w = none := look_keys (by rw [labsI_names]; exact nin)
  have stand : ∀ i ∈ pre, ¬ uses w i → Stands (labsI (pre ++ .ins 0 none :: post) 0) i := fun i hi hu => by
    cases i with
    | lab v => exact look_in (by rw [labsI_names, namesI_app]; exact List.mem_append_left _ (names_in hi))
    | ins n o =>
      cases o with
      | none => exact trivial
      | some v =>
        have hv : v ∈ namesI its := g.ref n v (by rw [e]; exact List.mem_append_left _ hi)
        rw [e, namesI_app] at hv
        refine look_in ?_
        rw [labsI_names, namesI_app]
        rcases List.mem_append.mp hv with hv | hv
        · exact List.mem_append_left _ hv
        · rcases List.mem_cons.mp hv with hv | hv
          · exact absurd hv hu
          · exact List.mem_append_right _ hv
  have hh : (heads (pre.map itW)).Nodup := by rw [heads_items pre okp]; exact nodup_colon (List.nodup_append.mp nd).1
  generalize labsI (pre ++ .ins 0 none :: post) 0 = lab at *
  rcases first_use w pre with h | ⟨a, n, b, rfl, h⟩
  · have f : firstOf w (pre.map itW ++ badN w :: post.map itW) pre.length = (pre.length, 0) := by
      unfold firstOf
      rw [wanted_app, wanted_none hw pre 0 okp h, List.nil_append]
      split
      · rfl
      · rename_i p ps q
        have := wanted_ge _ _ p (by rw [q]; exact List.mem_cons_self)
        rw [List.length_map] at this
        rw [if_neg (by omega)]
    rw [f]
    have := reads_fail (lab := lab) (bad := badN w) (post := post.map itW) (j := 0) (pre := pre.map itW) (nums := nums) (met := []) (acc := []) (by rw [hl, e]; simp) (fun ws hws => by
      obtain ⟨i', hi', rfl⟩ := List.mem_map.mp hws
      exact fine_item gl (okp _ hi') (stand _ hi' (h _ hi'))) (by simpa using hh) (by simp; omega) (.inl ⟨badN_lab w, badN_told lab w⟩)
    simpa using this
  · have oi : itOk (.ins n (some w)) := okp _ (by simp)
    have oa : ∀ i ∈ a, itOk i := fun i hi => okp i (List.mem_append_left _ hi)
    have len : (itW (.ins n (some w))).length - 1 = (formP n).2.length := by
      obtain ⟨g', eg⟩ := oi.2.1
      simp [itW, eg]
    have f : firstOf w ((a ++ .ins n (some w) :: b).map itW ++ badN w :: post.map itW) (a ++ .ins n (some w) :: b).length = (a.length, (formP n).2.length) := by
      unfold firstOf
      rw [List.map_append, List.map_cons, List.append_assoc, wanted_app, wanted_none hw a 0 oa h, List.nil_append, List.cons_append, wantedL, if_pos ((uses_iff hw oi).mpr rfl), len]
      simp only
      rw [if_pos (by simp)]
      simp
    rw [f]
    have bt := noname_row gl oi.1.1 oi.1.2 oi.2.1 hw noW
    have ha : heads ((a ++ .ins n (some w) :: b).map itW) = heads (a.map itW) ++ heads ((It.ins n (some w) :: b).map itW) := by rw [List.map_append]; unfold heads; rw [List.filter_append, List.map_append]
    rw [ha] at hh
    have := reads_fail (lab := lab) (bad := itW (.ins n (some w))) (post := b.map itW ++ badN w :: post.map itW) (j := (formP n).2.length) (pre := a.map itW) (nums := nums) (met := []) (acc := []) (by rw [hl, e]; simp) (fun ws hws => by
      obtain ⟨i', hi', rfl⟩ := List.mem_map.mp hws
      exact fine_item gl (oa _ hi') (stand _ (List.mem_append_left _ hi') (h _ hi'))) (by simpa using (List.nodup_append.mp hh).1) (by simp at lt ⊢; omega) (.inl ⟨isLab_ins oi, bt⟩)
    simpa using this
end
end K26

namespace K26
open MP PySem L2
/-! ### rows laid into a text -/
noncomputable def tb1 : CS := (cIfS (cTB (cB gEqA (cCall m__law_draw (caCons (cV 0) (caCons (cV 1) (caCons (cK (.int 5)) caNil)))) (cK (.int 0)))) (cDrop (cApp (cV 3) (cB gItem (cLst (caCons (cK (.str "")) (caCons (cK (.str "   ")) (caCons (cK (.str "# note: li r1")) caNil)))) (cCall m__law_draw (caCons (cV 0) (caCons (cV 1) (caCons (cK (.int 3)) caNil))))))) cNext)
noncomputable def tb2 : CS := (cDrop (cApp (cV 4) (cCall gLenA (caCons (cV 3) caNil))))
noncomputable def tb3 : CS := (cDrop (cApp (cV 3) (cB gAddA (cB gAddA (cB gItem (cLst (caCons (cK (.str " ")) (caCons (cK (.str "")) (caCons (cK (.str "  ")) caNil)))) (cCall m__law_draw (caCons (cV 0) (caCons (cV 1) (caCons (cK (.int 3)) caNil))))) (cMeth "str" gJoin (cB gItem (cLst (caCons (cK (.str " ")) (caCons (cK (.str "   ")) caNil))) (cCall m__law_draw (caCons (cV 0) (caCons (cV 1) (caCons (cK (.int 2)) caNil))))) (caCons (cV 5) caNil))) (cB gItem (cLst (caCons (cK (.str "")) (caCons (cK (.str " # x")) (caCons (cK (.str "  ")) caNil)))) (cCall m__law_draw (caCons (cV 0) (caCons (cV 1) (caCons (cK (.int 3)) caNil))))))))
theorem lt2b_eq : lt2b = cSeq tb1 (cSeq tb2 (tb3)) := rfl
def wf (h : List Nat) : Words := (TL.spl [32] 0 [] h).filter fun w => decide (w ≠ [])
theorem wf_nil : wf [] = [] := rfl
theorem wf_sp (r : List Nat) : wf (32 :: r) = wf r := by
  unfold wf
  have := TL.spl_part1 (s := 32) (S := []) (p := []) (rest := r) (acc := []) (by simp)
  rw [List.nil_append] at this
  show List.filter _ (TL.spl [32] 0 [] ([32] ++ r)) = _
  rw [this]
  simp
theorem wf_sps (k : Nat) (r : List Nat) : wf (List.replicate k 32 ++ r) = wf r := by
  induction k with
  | zero => rfl
  | succ k ih => rw [List.replicate_succ, List.cons_append, wf_sp, ih]
theorem wf_word {w : List Nat} (h : 32 ∉ w) (hn : w ≠ []) (r : List Nat) : wf (w ++ 32 :: r) = w :: wf r := by
  unfold wf
  have := TL.spl_part1 (s := 32) (S := []) (p := w) (rest := r) (acc := []) h
  show List.filter _ (TL.spl [32] 0 [] (w ++ ([32] ++ r))) = _
  rw [this]
  simp [hn]
theorem wf_last {w : List Nat} (h : 32 ∉ w) (hn : w ≠ []) : wf w = [w] := by
  unfold wf
  rw [TL.spl_last1 h]
  simp [hn]
theorem wf_join (b c : Nat) : ∀ ws : Words, ws ≠ [] → (∀ w ∈ ws, w ≠ [] ∧ 32 ∉ w) → wf (TL.joinL (List.replicate (b + 1) 32) ws ++ List.replicate c 32) = ws
  | [w], _, h => by
    obtain ⟨h1, h2⟩ := h w List.mem_cons_self
    cases c with
    | zero => simpa [TL.joinL] using wf_last h2 h1
    | succ c =>
      show wf (w ++ 32 :: List.replicate c 32) = _
      rw [wf_word h2 h1]
      have := wf_sps c []
      rw [List.append_nil] at this
      rw [this, wf_nil]
  | w :: v :: ws, _, h => by
    obtain ⟨h1, h2⟩ := h w List.mem_cons_self
    have ih := wf_join b c (v :: ws) (by simp) fun u hu => h u (List.mem_cons_of_mem _ hu)
    show wf ((w ++ (List.replicate (b + 1) 32 ++ TL.joinL (List.replicate (b + 1) 32) (v :: ws))) ++ List.replicate c 32) = _
    generalize TL.joinL (List.replicate (b + 1) 32) (v :: ws) = J at *
    have e : (w ++ (List.replicate (b + 1) 32 ++ J)) ++ List.replicate c 32 = w ++ 32 :: (List.replicate b 32 ++ (J ++ List.replicate c 32)) := by simp [List.replicate_succ]
    rw [e, wf_word h2 h1, wf_sps, ih]
structure CleanR (ws : Words) : Prop where
  ne : ws ≠ []
  len : ws.length ≤ 6
  ws : ∀ w ∈ ws, w ≠ [] ∧ w.length ≤ 20 ∧ ∀ c ∈ w, 33 ≤ c ∧ c ≠ 35 ∧ c < 128
theorem CleanR.sum {ws : Words} (h : ∀ w ∈ ws, w.length ≤ 20) : (ws.map List.length).sum ≤ ws.length * 20 := by
  induction ws with
  | nil => simp
  | cons w ws ih =>
    have := ih fun u hu => h u (List.mem_cons_of_mem _ hu)
    have := h w List.mem_cons_self
    simp only [List.map_cons, List.sum_cons, List.length_cons]
    omega
/-- one line: blanks, the words, an end -/
theorem line_good {ws : Words} (cl : CleanR ws) (a b : Nat) (ha : a ≤ 2) (hb : b ≤ 2) (tail : List Nat) (ht : tail = [] ∨ tail = [32, 35, 32, 120] ∨ tail = [32, 32]) :
    (List.replicate a 32 ++ TL.joinL (List.replicate (b + 1) 32) ws ++ tail).length ≤ 200 ∧ 10 ∉ (List.replicate a 32 ++ TL.joinL (List.replicate (b + 1) 32) ws ++ tail) ∧ rowGood (List.replicate a 32 ++ TL.joinL (List.replicate (b + 1) 32) ws ++ tail) ws ∧ (TL.joinL (List.replicate (b + 1) 32) ws).length ≤ 180 := by
  have jl := join_len (List.replicate (b + 1) 32) ws
  have sm := CleanR.sum fun w hw => (cl.ws w hw).2.1
  have cl' := cl.len
  rw [List.length_replicate] at jl
  have m1 : ws.length * (b + 1) ≤ 6 * 3 := Nat.mul_le_mul cl' (by omega)
  have jl2 : (TL.joinL (List.replicate (b + 1) 32) ws).length ≤ 180 := by omega
  have no : ∀ s, s < 33 → s ≠ 32 → s ∉ TL.joinL (List.replicate (b + 1) 32) ws := fun s hs h2 hm => by
    rcases mem_join hm with q | ⟨w, q1, q2⟩
    · exact h2 (List.eq_of_mem_replicate q)
    · have := ((cl.ws w q1).2.2 s q2).1; omega
  have no35 : 35 ∉ TL.joinL (List.replicate (b + 1) 32) ws := fun hm => by
    rcases mem_join hm with q | ⟨w, q1, q2⟩
    · have := List.eq_of_mem_replicate q; omega
    · exact ((cl.ws w q1).2.2 35 q2).2.1 rfl
  have wj := fun c => wf_join b c ws cl.ne fun w hw => ⟨(cl.ws w hw).1, fun hm => by have := ((cl.ws w hw).2.2 32 hm).1; omega⟩
  generalize TL.joinL (List.replicate (b + 1) 32) ws = j at *
  have na : ∀ s, s ≠ 32 → s ∉ List.replicate a 32 := fun s h hm => h (List.eq_of_mem_replicate hm)
  have tl : tail.length ≤ 4 := by rcases ht with rfl | rfl | rfl <;> simp
  have len : (List.replicate a 32 ++ j ++ tail).length ≤ 200 := by simp only [List.length_append, List.length_replicate]; omega
  have spll : ∀ (s : List Nat), (TL.spl [32] 0 [] s).length ≤ s.length + 1 := by
    intro s
    have go : ∀ (s acc : List Nat), (TL.spl [32] 0 acc s).length ≤ s.length + 1 := by
      intro s
      induction s with
      | nil => intro acc; rw [TL.spl_nil]; simp
      | cons c s ih =>
        intro acc
        by_cases h : TL.pre [32] (c :: s) = true
        · rw [TL.spl_hit h]
          have := ih []
          simp only [List.length_cons, List.length_nil, Nat.reduceAdd, Nat.reduceSub, Nat.zero_add] at this ⊢
          omega
        · rw [TL.spl_miss (by simpa using h)]
          have := ih (acc ++ [c])
          simp only [List.length_cons]
          omega
    exact go s []
  refine ⟨len, ?_, ⟨by omega, ?_⟩, jl2⟩
  · rw [List.mem_append, List.mem_append, not_or, not_or]
    refine ⟨⟨na 10 (by decide), no 10 (by decide) (by decide)⟩, ?_⟩
    rcases ht with rfl | rfl | rfl <;> decide
  · rcases ht with rfl | rfl | rfl
    · refine ⟨List.replicate a 32 ++ j, [], ?_, ?_, ?_, ?_⟩
      · rw [List.append_nil]
        exact TL.spl_last1 (by rw [List.mem_append, not_or]; exact ⟨na 35 (by decide), no35⟩)
      · simp only [List.length_append, List.length_replicate]; omega
      · have := spll (List.replicate a 32 ++ j)
        simp only [List.length_append, List.length_replicate] at this
        omega
      · have := wj 0
        rw [List.replicate_zero, List.append_nil] at this
        exact (wf_sps a j).trans this
    · refine ⟨List.replicate a 32 ++ j ++ [32], [[32, 120]], ?_, ?_, ?_, ?_⟩
      · have := TL.spl_part1 (s := 35) (S := []) (p := List.replicate a 32 ++ j ++ [32]) (rest := [32, 120]) (acc := []) (by
          rw [List.mem_append, List.mem_append, not_or, not_or]; exact ⟨⟨na 35 (by decide), no35⟩, by decide⟩)
        have e : List.replicate a 32 ++ j ++ [32, 35, 32, 120] = List.replicate a 32 ++ j ++ [32] ++ ([35] ++ [32, 120]) := by simp
        rw [e, this]
        rfl
      · simp only [List.length_append, List.length_replicate, List.length_cons, List.length_nil]; omega
      · have := spll (List.replicate a 32 ++ j ++ [32])
        simp only [List.length_append, List.length_replicate, List.length_cons, List.length_nil] at this
        omega
      · have := wj 1
        rw [List.append_assoc]
        exact (wf_sps a (j ++ [32])).trans this
    · refine ⟨List.replicate a 32 ++ j ++ [32, 32], [], ?_, ?_, ?_, ?_⟩
      · exact TL.spl_last1 (by rw [List.mem_append, List.mem_append, not_or, not_or]; exact ⟨⟨na 35 (by decide), no35⟩, by decide⟩)
      · simp only [List.length_append, List.length_replicate, List.length_cons, List.length_nil]; omega
      · have := spll (List.replicate a 32 ++ j ++ [32, 32])
        simp only [List.length_append, List.length_replicate, List.length_cons, List.length_nil] at this
        omega
      · have := wj 2
        rw [List.append_assoc]
        exact (wf_sps a (j ++ [32, 32])).trans this
theorem note_good {t : List Nat} (h : t = [] ∨ t = [32, 32, 32] ∨ t = [35, 32, 110, 111, 116, 101, 58, 32, 108, 105, 32, 114, 49]) : t.length ≤ 200 ∧ 10 ∉ t ∧ rowGood t [] := by
  rcases h with rfl | rfl | rfl
  · exact ⟨by simp, by simp, by simp, [], [], rfl, by simp, by simp [TL.spl_nil], rfl⟩
  · exact ⟨by simp, by simp, by simp, [32, 32, 32], [], by decide, by simp, by decide, by decide⟩
  · exact ⟨by simp, by decide, by simp, [], [[32, 110, 111, 116, 101, 58, 32, 108, 105, 32, 114, 49]], by decide, by simp, by decide, by decide⟩
/-! the loop -/
section
variable (ns : List Int) (rs : List Words)
def ltR (x5 : Option D) : Ro := [some (.ref 0 0), some (.rol (ns.map D.int)), some (.lst (rs.map wsD)), some (.ref 1 0), some (.ref 1 1), x5]
def ltS (L : Words) (N : List Nat) (i q : Int) : Sto := [[.lst (L.map fun y => .str (tx y)), .lst (N.map fun (n : Nat) => .int n)], T i q []]
theorem les_strs (l : Nat) : ∀ L : Words, D.les l (L.map fun y => D.str (tx y)) = true
  | [] => rfl
  | y :: L => by
    have := les_strs l L
    show (true && _) = true
    rw [this]; rfl
theorem les_nats (l : Nat) : ∀ N : List Nat, D.les l (N.map fun (n : Nat) => D.int n) = true
  | [] => rfl
  | y :: N => by
    have := les_nats l N
    show (true && _) = true
    rw [this]; rfl
theorem tb1_ok (ws : Words) (L : Words) (N : List Nat) (hl : L.length ≤ 1000) {i q : Int} (t : StOk i q) : ∃ nt i' q', StOk i' q' ∧ (nt = [] ∨ ∃ t : List Nat, nt = [t] ∧ (t = [] ∨ t = [32, 32, 32] ∨ t = [35, 32, 110, 111, 116, 101, 58, 32, 108, 105, 32, 114, 49])) ∧
    tb1 (ltR ns rs (some (wsD ws))) (ltS L N i q) = .nx (ltR ns rs (some (wsD ws))) (ltS (L ++ nt) N i' q') := by
  obtain ⟨d, i1, q1, t1, d0, d1, e1⟩ := draw_ok (ns := ns) (size := 5) [[.lst (L.map fun y => .str (tx y)), .lst (N.map fun (n : Nat) => .int n)]] [] t (by decide)
  obtain ⟨c, i2, q2, t2, c0, c1, e2⟩ := draw_ok (ns := ns) (size := 3) [[.lst (L.map fun y => .str (tx y)), .lst (N.map fun (n : Nat) => .int n)]] [] t1 (by decide)
  simp only [List.cons_append, List.nil_append] at e1 e2
  by_cases h : d = 0
  · subst h
    obtain ⟨u, hu, hat⟩ : ∃ u : List Nat, (u = [] ∨ u = [32, 32, 32] ∨ u = [35, 32, 110, 111, 116, 101, 58, 32, 108, 105, 32, 114, 49]) ∧ atI [D.str (tx []), .str (tx [32, 32, 32]), .str (tx [35, 32, 110, 111, 116, 101, 58, 32, 108, 105, 32, 114, 49])] c = some (.str (tx u)) := by
      have : c = 0 ∨ c = 1 ∨ c = 2 := by omega
      rcases this with rfl | rfl | rfl
      · exact ⟨_, .inl rfl, rfl⟩
      · exact ⟨_, .inr (.inl rfl), rfl⟩
      · exact ⟨_, .inr (.inr rfl), rfl⟩
    refine ⟨[u], i2, q2, t2, .inr ⟨u, rfl, hu⟩, ?_⟩
    have ls := les_strs 1 (L ++ [u])
    rw [List.map_append, List.map_cons, List.map_nil] at ls
    have l2 : L.length < 16000000 := by omega
    unfold ltR ltS at *
    simp only [tb1, lits]
    simp [e1, e2, hat, look, put, ls, l2]
  · refine ⟨[], i1, q1, t1, .inl rfl, ?_⟩
    unfold ltR ltS at *
    simp only [tb1, lits]
    simp [e1, h]
theorem tb2_ok (ws : Words) (L : Words) (N : List Nat) (hl : L.length ≤ 1000) (hn : N.length ≤ 1000) (i q : Int) : tb2 (ltR ns rs (some (wsD ws))) (ltS L N i q) = .nx (ltR ns rs (some (wsD ws))) (ltS L (N ++ [L.length]) i q) := by
  have ls := les_nats 1 (N ++ [L.length])
  rw [List.map_append, List.map_cons, List.map_nil] at ls
  have l2 : L.length ≤ 16000000 := by omega
  have l3 : N.length < 16000000 := by omega
  unfold ltR ltS
  simp only [tb2, lits]
  simp [gLenA, look, put, ls, l2, l3]
end
end K26

namespace K26
open MP PySem L2
section
variable (ns : List Int) (rs : List Words)
theorem tb3_ok {ws : Words} (cl : CleanR ws) (L : Words) (N : List Nat) (hl : L.length ≤ 1000) {i q : Int} (t : StOk i q) : ∃ line i' q', StOk i' q' ∧ line.length ≤ 200 ∧ 10 ∉ line ∧ rowGood line ws ∧
    tb3 (ltR ns rs (some (wsD ws))) (ltS L N i q) = .nx (ltR ns rs (some (wsD ws))) (ltS (L ++ [line]) N i' q') := by
  obtain ⟨c, i1, q1, t1, c0, c1, e1⟩ := draw_ok (ns := ns) (size := 3) [[.lst (L.map fun y => .str (tx y)), .lst (N.map fun (n : Nat) => .int n)]] [] t (by decide)
  obtain ⟨d, i2, q2, t2, d0, d1, e2⟩ := draw_ok (ns := ns) (size := 2) [[.lst (L.map fun y => .str (tx y)), .lst (N.map fun (n : Nat) => .int n)]] [] t1 (by decide)
  obtain ⟨k, i3, q3, t3, k0, k1, e3⟩ := draw_ok (ns := ns) (size := 3) [[.lst (L.map fun y => .str (tx y)), .lst (N.map fun (n : Nat) => .int n)]] [] t2 (by decide)
  simp only [List.cons_append, List.nil_append] at e1 e2 e3
  obtain ⟨a, ha, hat⟩ : ∃ a : Nat, a ≤ 2 ∧ atI [D.str (tx [32]), .str (tx []), .str (tx [32, 32])] c = some (.str (tx (List.replicate a 32))) := by
    have : c = 0 ∨ c = 1 ∨ c = 2 := by omega
    rcases this with rfl | rfl | rfl
    · exact ⟨1, by decide, rfl⟩
    · exact ⟨0, by decide, rfl⟩
    · exact ⟨2, by decide, rfl⟩
  obtain ⟨b, hb, hbt⟩ : ∃ b : Nat, b ≤ 2 ∧ atI [D.str (tx [32]), .str (tx [32, 32, 32])] d = some (.str (tx (List.replicate (b + 1) 32))) := by
    have : d = 0 ∨ d = 1 := by omega
    rcases this with rfl | rfl
    · exact ⟨0, by decide, rfl⟩
    · exact ⟨2, by decide, rfl⟩
  obtain ⟨u, hu, hut⟩ : ∃ u : List Nat, (u = [] ∨ u = [32, 35, 32, 120] ∨ u = [32, 32]) ∧ atI [D.str (tx []), .str (tx [32, 35, 32, 120]), .str (tx [32, 32])] k = some (.str (tx u)) := by
    have : k = 0 ∨ k = 1 ∨ k = 2 := by omega
    rcases this with rfl | rfl | rfl
    · exact ⟨_, .inl rfl, rfl⟩
    · exact ⟨_, .inr (.inl rfl), rfl⟩
    · exact ⟨_, .inr (.inr rfl), rfl⟩
  obtain ⟨g1, g2, g3, g4⟩ := line_good cl a b ha hb u hu
  have J : ∀ S, gJoin (.str (tx (List.replicate (b + 1) 32))) [wsD ws] S = .ok (.str (tx (TL.joinL (List.replicate (b + 1) 32) ws))) S := fun S => gJoin_tx (List.replicate (b + 1) 32) ws S (by
    have sm := CleanR.sum fun w hw => (cl.ws w hw).2.1
    have := cl.len
    have m1 : ws.length * (b + 1) ≤ 6 * 3 := Nat.mul_le_mul this (by omega)
    rw [List.length_replicate]; omega)
  have hul : u.length ≤ 4 := by rcases hu with rfl | rfl | rfl <;> simp
  have hal : (List.replicate a 32).length ≤ 2 := by rw [List.length_replicate]; exact ha
  refine ⟨List.replicate a 32 ++ TL.joinL (List.replicate (b + 1) 32) ws ++ u, i3, q3, t3, g1, g2, g3, ?_⟩
  generalize TL.joinL (List.replicate (b + 1) 32) ws = j at *
  generalize List.replicate (b + 1) 32 = s at *
  generalize List.replicate a 32 = p at *
  have ls := les_strs 1 (L ++ [p ++ j ++ u])
  rw [List.map_append, List.map_cons, List.map_nil] at ls
  have l2 : L.length < 16000000 := by omega
  have l3 : p.length + j.length ≤ 16000000 := by omega
  have l4 : p.length + j.length + u.length ≤ 16000000 := by omega
  have l5 : p.length + (j.length + u.length) ≤ 16000000 := by omega
  rw [List.append_assoc] at ls
  unfold ltR ltS
  generalize wsD ws = W at *
  simp only [tb3, lits]
  simp [e1, e2, e3, hat, hbt, hut, J, look, put, ls, l2, l3, l4, l5]
/-- lines with the words that lie in them -/
structure Laid (ps : List (List Nat × Words)) (N : List Nat) (done : List Words) : Prop where
  good : ∀ p ∈ ps, p.1.length ≤ 200 ∧ 10 ∉ p.1 ∧ rowGood p.1 p.2
  len : ps.length ≤ 2 * done.length
  num : N.length = done.length
  rows : rowsN 0 (ps.map Prod.snd) = N.zip done
theorem rowsN_app : ∀ (a b : List Words) (k : Nat), rowsN k (a ++ b) = rowsN k a ++ rowsN (k + a.length) b
  | [], b, k => rfl
  | ws :: a, b, k => by
    rw [List.cons_append, rowsN, rowsN, rowsN_app a b (k + 1)]
    have : k + 1 + a.length = k + (ws :: a).length := by simp; omega
    rw [this]
    split <;> rfl
theorem lt2b_ok {ws : Words} (cl : CleanR ws) {ps : List (List Nat × Words)} {N : List Nat} {done : List Words} (h : Laid ps N done) (hd : done.length ≤ 100) {i q : Int} (t : StOk i q) : ∃ ps' N' i' q', StOk i' q' ∧ Laid ps' N' (done ++ [ws]) ∧ ps' ≠ [] ∧
    lt2b (ltR ns rs (some (wsD ws))) (ltS (ps.map Prod.fst) N i q) = .nx (ltR ns rs (some (wsD ws))) (ltS (ps'.map Prod.fst) N' i' q') := by
  have hl := h.len
  have hn := h.num
  obtain ⟨nt, i1, q1, t1, hnt, e1⟩ := tb1_ok ns rs ws (ps.map Prod.fst) N (by simp; omega) t
  have hnl : nt.length ≤ 1 := by rcases hnt with rfl | ⟨u, rfl, _⟩ <;> simp
  have e2 := tb2_ok ns rs ws (ps.map Prod.fst ++ nt) N (by simp; omega) (by omega) i1 q1
  obtain ⟨line, i3, q3, t3, g1, g2, g3, e3⟩ := tb3_ok ns rs cl (ps.map Prod.fst ++ nt) (N ++ [(ps.map Prod.fst ++ nt).length]) (by simp; omega) t1
  refine ⟨ps ++ nt.map (fun u => (u, [])) ++ [(line, ws)], N ++ [(ps.map Prod.fst ++ nt).length], i3, q3, t3, ⟨?_, ?_, ?_, ?_⟩, by simp, ?_⟩
  · intro p hp
    rcases List.mem_append.mp hp with hp | hp
    · rcases List.mem_append.mp hp with hp | hp
      · exact h.good p hp
      · obtain ⟨u, hu, rfl⟩ := List.mem_map.mp hp
        rcases hnt with rfl | ⟨v, rfl, hv⟩
        · simp at hu
        · rw [List.mem_singleton] at hu
          subst hu
          exact note_good hv
    · rw [List.mem_singleton] at hp
      subst hp
      exact ⟨g1, g2, g3⟩
  · simp; omega
  · simp [hn]
  · rw [List.map_append, List.map_append, rowsN_app, rowsN_app, h.rows]
    have z : rowsN (0 + (ps.map Prod.snd).length) ((nt.map fun u => (u, ([] : Words))).map Prod.snd) = [] := by
      rcases hnt with rfl | ⟨v, rfl, _⟩
      · rfl
      · simp [rowsN]
    rw [z, List.append_nil, List.zip_append (by rw [hn])]
    congr 1
    simp [rowsN, cl.ne]
  · rw [lt2b_eq]
    simp only [cSeq_eq, e1, RSt.andThen_nx, e2]
    rw [e3]
    congr 1
    simp [ltS, Function.comp_def]
theorem lt2_run (todo : List Words) : ∀ {ps : List (List Nat × Words)} {N : List Nat} {done : List Words} {i q : Int}, Laid ps N done → (∀ ws ∈ todo, CleanR ws) → done.length + todo.length ≤ 100 → StOk i q → ∀ x5, ∃ ps' N' i' q' x5', StOk i' q' ∧ Laid ps' N' (done ++ todo) ∧ (todo ≠ [] → ps' ≠ []) ∧
    forL (tgN 5) lt2b (todo.map wsD) (ltR ns rs x5) (ltS (ps.map Prod.fst) N i q) = .nx (ltR ns rs x5') (ltS (ps'.map Prod.fst) N' i' q') := by
  induction todo with
  | nil =>
    intro ps N done i q h _ _ t x5
    exact ⟨ps, N, i, q, x5, t, by rw [List.append_nil]; exact h, fun e => absurd rfl e, rfl⟩
  | cons ws todo ih =>
    intro ps N done i q h cl hl t x5
    rw [List.length_cons] at hl
    obtain ⟨ps1, N1, i1, q1, t1, h1, ne1, e1⟩ := lt2b_ok ns rs (cl ws List.mem_cons_self) h (by omega) t
    obtain ⟨ps2, N2, i2, q2, y5, t2, h2, ne2, e2⟩ := ih h1 (fun w hw => cl w (List.mem_cons_of_mem _ hw)) (by simp; omega) t1 (some (wsD ws))
    refine ⟨ps2, N2, i2, q2, y5, t2, by rw [List.append_assoc] at h2; exact h2, fun _ e => ?_, (forL_nx (ρ1 := ltR ns rs (some (wsD ws))) rfl e1).trans e2⟩
    have z := h2.rows
    rw [e] at z
    have n2 := h2.num
    have : N2.zip (done ++ [ws] ++ todo) = [] := z.symm
    have l := congrArg List.length this
    rw [List.length_zip, n2] at l
    simp at l
end
end K26

namespace K26
open MP PySem L2
theorem fz_nats (r : List O) (l n : Nat) : ∀ N : List Nat, mapO (D.fz r l (n + 1)) (N.map fun (n : Nat) => D.int n) = some (N.map fun (n : Nat) => D.int n)
  | [] => rfl
  | k :: N => by
    have ih := fz_nats r l n N
    have f : D.fz r l (n + 1) (.int k) = some (.int k) := rfl
    show mapO (D.fz r l (n + 1)) (.int k :: N.map fun (n : Nat) => D.int n) = some (.int k :: N.map fun (n : Nat) => D.int n)
    simp only [mapO, f, ih]
theorem fz_top (r : List O) (l n i : Nat) {xs ys : List D} (h : r[i]? = some (.lst xs)) (hm : mapO (D.fz r l n) xs = some ys) : D.fz r l (n + 1) (.ref l i) = some (.lst ys) := by
  show (if l = l then _ else _) = _
  rw [if_pos rfl, h]
  simp only [hm]
theorem fz_topB (r : List O) (l n i : Nat) {xs ys : List D} {b : Bx} (h : r[i]? = some (.box b xs)) (hm : mapO (D.fz r l n) xs = some ys) : D.fz r l (n + 1) (.ref l i) = some (.box b ys) := by
  show (if l = l then _ else _) = _
  rw [if_pos rfl, h]
  simp only [hm]
section
variable (ns : List Int)
theorem law_text_ok {rs : List Words} (cl : ∀ ws ∈ rs, CleanR ws) (hne : rs ≠ []) (hl : rs.length ≤ 100) {i q : Int} (t : StOk i q) : ∃ (x : List Nat) (N : List Nat) (i' q' : Int), StOk i' q' ∧ TextOk x (N.zip rs) ∧ N.length = rs.length ∧
    m__law_text [.ref 0 0, .rol (ns.map D.int), .lst (rs.map wsD)] [T i q []] = .ok (.tup [.str (tx x), .lst (N.map fun (n : Nat) => .int n)]) [T i' q' []] := by
  have L0 : Laid [] [] [] := ⟨fun p hp => by simp at hp, by simp, rfl, rfl⟩
  obtain ⟨ps, N, i', q', y5, t', h, hp, e2⟩ := lt2_run ns rs rs L0 cl (by simpa using hl) t none
  have hps := hp hne
  rw [List.nil_append] at h
  have hlen := h.len
  have jl := join_len [10] (ps.map Prod.fst)
  have sm : ∀ ls : List (List Nat × Words), (∀ p ∈ ls, p.1.length ≤ 200) → ((ls.map Prod.fst).map List.length).sum ≤ ls.length * 200 := by
    intro ls
    induction ls with
    | nil => intro _; simp
    | cons p ls ih =>
      intro hh
      have := ih fun r hr => hh r (List.mem_cons_of_mem _ hr)
      have := hh p List.mem_cons_self
      simp only [List.map_cons, List.sum_cons, List.length_cons] at *
      omega
  have s1 := sm ps fun p hp => (h.good p hp).1
  rw [List.length_map, List.length_singleton] at jl
  have J := gJoin_tx [10] (ps.map Prod.fst) (ltS (ps.map Prod.fst) N i' q') (by rw [List.length_map, List.length_singleton]; omega)
  have J2 : gJoin (.str (tx [10])) [.ref 1 0] (ltS (ps.map Prod.fst) N i' q') = .ok (.str (tx (TL.joinL [10] (ps.map Prod.fst)))) (ltS (ps.map Prod.fst) N i' q') := J
  refine ⟨TL.joinL [10] (ps.map Prod.fst), N, i', q', t', ⟨by omega, ⟨ps, ?_, fun p hp => (h.good p hp).2.2, by omega, h.rows.symm⟩, ?_, ?_⟩, h.num, ?_⟩
  · exact TL.spl_join (by simpa using hps) fun p hp => by
      obtain ⟨r, hr, rfl⟩ := List.mem_map.mp hp
      exact (h.good r hr).2.1
  · intro r hr
    have c := cl r.2 (List.of_mem_zip hr).2
    exact ⟨by have := c.len; omega, fun w hw => by have := (c.ws w hw).2.1; omega⟩
  · rw [List.length_zip]; have := h.num; omega
  · have e1 : lt1 [some (.ref 0 0), some (.rol (ns.map D.int)), some (.lst (rs.map wsD)), none, none, none] [[], T i q []] = .nx (ltR ns rs none) (ltS [] [] i q) := by
      simp only [lt1, lits]
      unfold ltR ltS
      simp [newAt, D.les]
    have e2' : lt2 (ltR ns rs none) (ltS [] [] i q) = .nx (ltR ns rs y5) (ltS (ps.map Prod.fst) N i' q') := by
      refine Eq.trans ?_ e2
      unfold ltR
      simp only [lt2, lits]
      simp
    have e3 : lt3 (ltR ns rs y5) (ltS (ps.map Prod.fst) N i' q') = .ret (.tup [.str (tx (TL.joinL [10] (ps.map Prod.fst))), .ref 1 1]) (ltS (ps.map Prod.fst) N i' q') := by
      unfold ltR
      simp only [lt3, lits]
      simp [J2]
    show runF 6 c__law_text _ _ = _
    rw [runF_out, c__law_text_eq]
    simp only [List.map_cons, List.map_nil, List.length_cons, List.length_nil, List.replicate, List.cons_append, List.nil_append, Nat.reduceAdd, Nat.reduceSub, cSeq_eq]
    rw [e1]
    simp only [RSt.andThen_nx, cSeq_eq]
    rw [e2']
    simp only [RSt.andThen_nx, cSeq_eq]
    rw [e3, outF_ret]
    unfold ltS
    have f1 := fz_nats [.lst ((ps.map Prod.fst).map fun y => .str (tx y)), .lst (N.map fun (n : Nat) => .int n)] 1 37 N
    simp only [leave]
    have z : D.fz [.lst ((ps.map Prod.fst).map fun y => .str (tx y)), .lst (N.map fun (n : Nat) => .int n)] 1 40 (.tup [.str (tx (TL.joinL [10] (ps.map Prod.fst))), .ref 1 1]) = some (.tup [.str (tx (TL.joinL [10] (ps.map Prod.fst))), .lst (N.map fun (n : Nat) => .int n)]) := by
      have a0 : ∀ y : Str, D.fz [.lst ((ps.map Prod.fst).map fun y => .str (tx y)), .lst (N.map fun (n : Nat) => .int n)] 1 39 (.str y) = some (.str y) := fun _ => rfl
      have a1 : D.fz [.lst ((ps.map Prod.fst).map fun y => .str (tx y)), .lst (N.map fun (n : Nat) => .int n)] 1 39 (.ref 1 1) = some (.lst (N.map fun (n : Nat) => .int n)) := by
        exact fz_top _ 1 38 1 rfl f1
      show (match mapO (D.fz [.lst ((ps.map Prod.fst).map fun y => .str (tx y)), .lst (N.map fun (n : Nat) => .int n)] 1 39) [.str (tx (TL.joinL [10] (ps.map Prod.fst))), .ref 1 1] with
        | some ys => some (D.tup ys)
        | none => none) = _
      simp only [mapO, a0, a1]
    rw [show ([T i' q' []] : Sto).length = 1 from rfl, z]
end
end K26

namespace K26
open MP PySem L2
/-! ### names -/
abbrev sgn (c : Nat) : Prop := isLet c = true ∨ isFig c = true
theorem sum1 : ∀ us : List Nat, ((us.map fun c => [c]).map List.length).sum = us.length
  | [] => rfl
  | c :: us => by
    have := sum1 us
    rw [List.map_cons, List.map_cons, List.sum_cons, this]
    simp only [List.length_cons, List.length_nil]
    omega
theorem flat1 : ∀ us : List Nat, (us.map fun c => [c]).flatten = us
  | [] => rfl
  | c :: us => by
    have := flat1 us
    rw [List.map_cons, List.flatten_cons, this]
    rfl
section
variable (ns : List Int)
theorem signs_run (fr : List (List O)) (k : Int) (x4 : Option D) : ∀ (ds : List D) {i q : Int}, StOk i q → ∃ (us : List Nat) (i' q' : Int), StOk i' q' ∧ us.length = ds.length ∧ (∀ c ∈ us, sgn c) ∧
    lcL (tgN 4) ctYes (cB gItem (cV 3) (cCall m__law_draw (caCons (cV 0) (caCons (cV 1) (caCons (cK (.int 9)) caNil))))) [some (.ref 0 0), some (.rol (ns.map D.int)), some (.int k), some (.str (tx [97, 98, 99, 120, 121, 122, 48, 49, 57])), none] ds (fr ++ [T i q []]) = .ok (us.map fun c => .str (tx [c])) (fr ++ [T i' q' []])
  | [], i, q, t => ⟨[], i, q, t, rfl, by simp, rfl⟩
  | d :: ds, i, q, t => by
    obtain ⟨r, i1, q1, t1, r0, r1, e1⟩ := draw_ok (ns := ns) (size := 9) fr [] t (by decide)
    obtain ⟨us, i2, q2, t2, l2, c2, e2⟩ := signs_run fr k x4 ds t1
    obtain ⟨c, hc, hat⟩ : ∃ c : Nat, sgn c ∧ atI [97, 98, 99, 120, 121, 122, 48, 49, 57] r = some c := by
      have : r = 0 ∨ r = 1 ∨ r = 2 ∨ r = 3 ∨ r = 4 ∨ r = 5 ∨ r = 6 ∨ r = 7 ∨ r = 8 := by omega
      rcases this with rfl | rfl | rfl | rfl | rfl | rfl | rfl | rfl | rfl
      · exact ⟨97, by decide, rfl⟩
      · exact ⟨98, by decide, rfl⟩
      · exact ⟨99, by decide, rfl⟩
      · exact ⟨120, by decide, rfl⟩
      · exact ⟨121, by decide, rfl⟩
      · exact ⟨122, by decide, rfl⟩
      · exact ⟨48, by decide, rfl⟩
      · exact ⟨49, by decide, rfl⟩
      · exact ⟨57, by decide, rfl⟩
    refine ⟨c :: us, i2, q2, t2, by simp [l2], fun x hx => by rcases List.mem_cons.mp hx with rfl | hx; exact hc; exact c2 x hx, ?_⟩
    rw [lcL_cons]
    simp [e1, hat, e2]
theorem label_draw (fr : List (List O)) (k : Nat) (hk : k < 10) {i q : Int} (t : StOk i q) : ∃ (w : List Nat) (i' q' : Int), StOk i' q' ∧ nameG w = true ∧ w.getLast? = some (97 + k) ∧ w.length ≤ 7 ∧
    m__law_label [.ref 0 0, .rol (ns.map D.int), .int k] (fr ++ [T i q []]) = .ok (.str (tx w)) (fr ++ [T i' q' []]) := by
  obtain ⟨r, i1, q1, t1, r0, r1, e1⟩ := draw_ok (ns := ns) (size := 3) ([] :: fr) [] t (by decide)
  obtain ⟨m, i2, q2, t2, m0, m1, e2⟩ := draw_ok (ns := ns) (size := 6) ([] :: fr) [] t1 (by decide)
  obtain ⟨us, i3, q3, t3, l3, c3, e3⟩ := signs_run ns ([] :: fr) k none (rngD 0 m.toNat) t2
  rw [rngD_length] at l3
  simp only [List.cons_append] at e1 e2 e3
  obtain ⟨c0, hc0, hc0', hat⟩ : ∃ c : Nat, 97 ≤ c ∧ c ≤ 99 ∧ atI [97, 98, 99] r = some c := by
    have : r = 0 ∨ r = 1 ∨ r = 2 := by omega
    rcases this with rfl | rfl | rfl
    · exact ⟨97, by decide, by decide, rfl⟩
    · exact ⟨98, by decide, by decide, rfl⟩
    · exact ⟨99, by decide, by decide, rfl⟩
  have hkt : atI [97, 98, 99, 100, 101, 102, 103, 104, 105, 106] (k : Int) = some (97 + k) := by
    rw [atI_nn (by omega)]
    have : k = 0 ∨ k = 1 ∨ k = 2 ∨ k = 3 ∨ k = 4 ∨ k = 5 ∨ k = 6 ∨ k = 7 ∨ k = 8 ∨ k = 9 := by omega
    rcases this with rfl | rfl | rfl | rfl | rfl | rfl | rfl | rfl | rfl | rfl <;> rfl
  have J := fun S => gJoin_tx [] (us.map fun c => [c]) S (by
    have := sum1 us
    rw [this]; simp; omega)
  rw [joinL_nil, List.map_map] at J
  have fl := flat1 us
  rw [fl] at J
  have J2 : ∀ S, gJoin (.str (tx [])) [.lst (us.map fun c => .str (tx [c]))] S = .ok (.str (tx us)) S := J
  have ul : us.length ≤ 5 := by omega
  refine ⟨[c0] ++ us ++ [97 + k], i3, q3, t3, ?_, by rw [List.getLast?_concat], by simp; omega, ?_⟩
  · unfold nameG labW
    have a1 : isLet c0 = true := by simp [isLet]; omega
    have a2 : isLet (97 + k) = true := by simp [isLet]; omega
    have a3 : ∀ c ∈ us, isLet c = true ∨ isFig c = true := c3
    have a4 : us.length ≤ 10 := by omega
    simp [a1, a2, a4, hc0, hc0']
    exact a3
  · have b0 : 0 ≤ m ∧ m ≤ 16000000 := by omega
    have b1 : -16000000 ≤ m ∧ m ≤ 16000000 := by omega
    have b2 : 1 + us.length ≤ 16000000 := by omega
    have b3 : us.length + 1 ≤ 16000000 := by omega
    have b4 : 1 + us.length + 1 ≤ 16000000 := by omega
    have b5 : us.length + 1 + 1 ≤ 16000000 := by omega
    have b6 : m.toNat ≤ 16000000 := by omega
    have h1 : la1 [some (.ref 0 0), some (.rol (ns.map D.int)), some (.int k), none, none] ([] :: (fr ++ [T i q []])) = .nx [some (.ref 0 0), some (.rol (ns.map D.int)), some (.int k), some (.str (tx [97, 98, 99, 120, 121, 122, 48, 49, 57])), none] ([] :: (fr ++ [T i q []])) := by
      simp only [la1, lits]
      simp
    have h2 : la2 [some (.ref 0 0), some (.rol (ns.map D.int)), some (.int k), some (.str (tx [97, 98, 99, 120, 121, 122, 48, 49, 57])), none] ([] :: (fr ++ [T i q []])) = .ret (.str (tx ([c0] ++ us ++ [97 + k]))) ([] :: (fr ++ [T i3 q3 []])) := by
      simp only [la2, lits]
      simp [e1, e2, e3, hat, hkt, J2, b1, b2, b3, b4, b5, b6]
    show runF 5 c__law_label _ _ = _
    rw [runF_out, c__law_label_eq]
    simp only [List.map_cons, List.map_nil, List.length_cons, List.length_nil, List.replicate, List.cons_append, List.nil_append, Nat.reduceAdd, Nat.reduceSub, cSeq_eq]
    rw [h1]
    simp only [RSt.andThen_nx]
    rw [h2]
    rfl
def NamesFrom : Nat → Words → Prop
  | _, [] => True
  | k, w :: r => nameG w = true ∧ w.getLast? = some (97 + k) ∧ w.length ≤ 7 ∧ NamesFrom (k + 1) r
theorem NamesFrom.last {w : List Nat} : ∀ {ws : Words} {k : Nat}, NamesFrom k ws → w ∈ ws → nameG w = true ∧ w.length ≤ 7 ∧ ∃ j, k ≤ j ∧ w.getLast? = some (97 + j)
  | v :: ws, k, h, hm => by
    rcases List.mem_cons.mp hm with rfl | hm
    · exact ⟨h.1, h.2.2.1, k, Nat.le_refl _, h.2.1⟩
    · obtain ⟨a, b, j, hj, e⟩ := NamesFrom.last h.2.2.2 hm
      exact ⟨a, b, j, by omega, e⟩
theorem NamesFrom.nodup : ∀ {ws : Words} {k : Nat}, NamesFrom k ws → ws.Nodup
  | [], _, _ => List.nodup_nil
  | w :: ws, k, h => by
    rw [List.nodup_cons]
    refine ⟨fun hm => ?_, h.2.2.2.nodup⟩
    obtain ⟨_, _, j, hj, e⟩ := h.2.2.2.last hm
    rw [h.2.1] at e
    simp at e
    omega
theorem names_run (fr : List (List O)) (ρ : Ro) (h0 : ρ.getD 0 none = some (.ref 0 0)) (h1 : ρ.getD 1 none = some (.rol (ns.map D.int))) (hρ : ρ.length = 11) : ∀ (m k : Nat) {i q : Int}, k + m ≤ 10 → StOk i q → ∃ (ws : Words) (i' q' : Int), StOk i' q' ∧ NamesFrom k ws ∧ ws.length = m ∧
    lcL (tgN 8) ctYes (cCall m__law_label (caCons (cV 0) (caCons (cV 1) (caCons (cV 8) caNil)))) ρ (rngD k m) (fr ++ [T i q []]) = .ok (ws.map fun w => .str (tx w)) (fr ++ [T i' q' []])
  | 0, k, i, q, _, t => ⟨[], i, q, t, trivial, rfl, rfl⟩
  | m + 1, k, i, q, hk, t => by
    obtain ⟨w, i1, q1, t1, n1, n2, n3, e1⟩ := label_draw ns fr k (by omega) t
    obtain ⟨ws, i2, q2, t2, nf, l2, e2⟩ := names_run fr ρ h0 h1 hρ m (k + 1) (by omega) t1
    refine ⟨w :: ws, i2, q2, t2, ⟨n1, n2, n3, nf⟩, by simp [l2], ?_⟩
    rw [rngD_succ, lcL_cons]
    match ρ, hρ with
    | [r0, r1, r2, r3, r4, r5, r6, r7, r8, r9, r10], _ =>
      have z0 : r0 = some (.ref 0 0) := h0
      have z1 : r1 = some (.rol (ns.map D.int)) := h1
      subst z0
      subst z1
      rw [show ((k + 1 : Nat) : Int) = (k : Int) + 1 by omega] at e2
      simp [e1, e2]
end
end K26

namespace K26
open MP PySem L2
/-! ### the law's rows are drawn -/
theorem gItem_ref {l n : Nat} {S : Sto} {ks : List Key} {vs : List D} (h : look S l n = some (.box (.dK ks) vs)) (k : Str) : gItem (.ref l n) (.str k) S = match getA ks vs (.inr k) with | some d => .ok d S | none => .bad := by
  have e : (D.ref l n).dict S = some (ks, vs) := by simp [D.dict, h]
  unfold gItem gDget
  rw [e]
  rfl
theorem le_ws (l : Nat) (ws : Words) : D.le l (wsD ws) = true := les_strs l ws
theorem les_rows (l : Nat) : ∀ rs : List Words, D.les l (rs.map wsD) = true
  | [] => rfl
  | ws :: rs => by
    have := les_rows l rs
    show (D.le l (wsD ws) && _) = true
    rw [this, le_ws]
    rfl
section
variable (ns : List Int)
def roR (size : Int) (x5 x6 x7 x8 x9 x10 : Option D) : Ro := [some (.ref 0 0), some (.rol (ns.map D.int)), some (.int size), some (.ref 1 0), some (.ref 1 1), x5, x6, x7, x8, x9, x10]
theorem ro3_run (size : Int) (hs : 0 ≤ size ∧ size ≤ 20) (x5 x7 x8 x9 x10 : Option D) : ∀ (ws : Words) (pl : Labs) {i q : Int} (x6 : Option D), (pl.map Prod.fst ++ ws).Nodup → pl.length + ws.length ≤ 100 → StOk i q → ∃ (new : Labs) (i' q' : Int) (x6' : Option D), StOk i' q' ∧ new.map Prod.fst = ws ∧ (∀ p ∈ new, 0 ≤ p.2 ∧ p.2 ≤ size) ∧
    forL (tgN 6) ro3b (ws.map fun w => .str (tx w)) (roR ns size x5 x6 x7 x8 x9 x10) [[.lst [], .box (.dK (labK pl)) (labV pl)], T i q []] = .nx (roR ns size x5 x6' x7 x8 x9 x10) [[.lst [], .box (.dK (labK (pl ++ new))) (labV (pl ++ new))], T i' q' []]
  | [], pl, i, q, x6, _, _, t => ⟨[], i, q, x6, t, rfl, by simp, by rw [List.append_nil]; rfl⟩
  | w :: ws, pl, i, q, x6, hn, hl, t => by
    obtain ⟨v, i1, q1, t1, v0, v1, e1⟩ := draw_ok (ns := ns) (size := size + 1) [[.lst [], .box (.dK (labK pl)) (labV pl)]] [] t (by omega)
    simp only [List.cons_append, List.nil_append] at e1
    have nm : w ∉ pl.map Prod.fst := fun hm => (List.nodup_append.mp hn).2.2 _ hm _ List.mem_cons_self rfl
    obtain ⟨s1, s2⟩ := box_set (p := v) (look_keys nm)
    obtain ⟨new, i2, q2, y6, t2, h1, h2, e2⟩ := ro3_run size hs x5 x7 x8 x9 x10 ws (pl ++ [(w, v)]) (i := i1) (q := q1) (some (.str (tx w))) (by rw [List.map_append, List.append_assoc]; exact hn) (by simp at hl ⊢; omega) t1
    refine ⟨(w, v) :: new, i2, q2, y6, t2, by rw [List.map_cons, h1], fun p hp => ?_, ?_⟩
    · rcases List.mem_cons.mp hp with rfl | hp
      · exact ⟨v0, by simp only; omega⟩
      · exact h2 p hp
    · have e : pl ++ (w, v) :: new = pl ++ [(w, v)] ++ new := by simp
      rw [e, List.map_cons]
      refine (forL_nx (ρ1 := roR ns size x5 (some (.str (tx w))) x7 x8 x9 x10) rfl ?_).trans e2
      have ls := les_lab 1 (pl ++ [(w, v)])
      rw [← s2] at ls
      have ll : (labK pl).length < 16000000 := by simp at hl ⊢; omega
      rw [← s1, ← s2]
      unfold roR
      simp only [ro3b, lits]
      simp only [List.length_map] at ll
      simp [e1, look, put, ls, ll]
def rowsD (its : List It) : List D := (its.map itW).map wsD
theorem rowsD_snoc (its : List It) (i : It) : rowsD (its ++ [i]) = rowsD its ++ [wsD (itW i)] := by simp [rowsD]
theorem rowsD_len (its : List It) : (rowsD its).length = its.length := by simp [rowsD]
theorem rowsD_les (l : Nat) (its : List It) : D.les l (rowsD its) = true := les_rows l _
def F3 (code : List Int) (pl : Labs) (its : List It) : List O := [.lst (code.map D.int), .box (.dK (labK pl)) (labV pl), .lst (rowsD its)]
theorem ro5b1_run (size : Int) (x5 x9 x10 : Option D) (k : Int) (code : List Int) (pl : Labs) (i q : Int) : ∀ (ws : Words) (its : List It) (x6 : Option D), (∀ w ∈ ws, w.length ≤ 7 ∧ ∃ v, lookL pl w = some v) → its.length + ws.length ≤ 100 → ∃ x6',
    forL (tgN 6) ro5b1b (ws.map fun w => .str (tx w)) (roR ns size x5 x6 (some (.ref 1 2)) (some (.int k)) x9 x10) [F3 code pl its, T i q []] = .nx (roR ns size x5 x6' (some (.ref 1 2)) (some (.int k)) x9 x10) [F3 code pl (its ++ (ws.filter fun w => decide (lookL pl w = some k)).map It.lab), T i q []]
  | [], its, x6, _, _ => ⟨x6, by simp⟩
  | w :: ws, its, x6, h, hl => by
    rw [List.length_cons] at hl
    obtain ⟨hw, v, hv⟩ := h w List.mem_cons_self
    have g := getA_lab w pl
    rw [hv] at g
    have gi := gItem_ref (l := 1) (n := 1) (S := [F3 code pl its, T i q []]) (ks := labK pl) (vs := labV pl) rfl (tx w)
    rw [g] at gi
    simp only [Option.map_some] at gi
    have hw' : w.length ≤ 16000000 := by omega
    have hw2 : w.length + 1 ≤ 16000000 := by omega
    by_cases hk : v = k
    · obtain ⟨y6, ih⟩ := ro5b1_run size x5 x9 x10 k code pl i q ws (its ++ [It.lab w]) (some (.str (tx w))) (fun u hu => h u (List.mem_cons_of_mem _ hu)) (by simp; omega)
      refine ⟨y6, ?_⟩
      rw [List.map_cons, List.filter_cons, if_pos (decide_eq_true (by rw [hv, hk]))]
      refine (forL_nx (ρ1 := roR ns size x5 (some (.str (tx w))) (some (.ref 1 2)) (some (.int k)) x9 x10) (ρ2 := roR ns size x5 (some (.str (tx w))) (some (.ref 1 2)) (some (.int k)) x9 x10) (S2 := [F3 code pl (its ++ [It.lab w]), T i q []]) rfl ?_).trans (ih.trans (by simp))
      have ls := rowsD_les 1 (its ++ [It.lab w])
      rw [rowsD_snoc] at ls
      have il : (rowsD its).length < 16000000 := by rw [rowsD_len]; omega
      unfold roR
      simp only [ro5b1b, lits]
      unfold F3 at gi ⊢
      subst hk
      rw [rowsD_snoc]
      have ls' : D.les 1 (rowsD its ++ [.lst [.str (tx (w ++ [58]))]]) = true := ls
      have e0 : wsD (itW (.lab w)) = .lst [.str (tx (w ++ [58]))] := rfl
      rw [e0]
      simp [gi, hw2, look, put, il, ls']
    · obtain ⟨y6, ih⟩ := ro5b1_run size x5 x9 x10 k code pl i q ws its (some (.str (tx w))) (fun u hu => h u (List.mem_cons_of_mem _ hu)) (by omega)
      refine ⟨y6, ?_⟩
      rw [List.map_cons, List.filter_cons, if_neg (by rw [decide_eq_true_eq, hv]; intro e; cases e; exact hk rfl)]
      refine (forL_nx (ρ1 := roR ns size x5 (some (.str (tx w))) (some (.ref 1 2)) (some (.int k)) x9 x10) (ρ2 := roR ns size x5 (some (.str (tx w))) (some (.ref 1 2)) (some (.int k)) x9 x10) (S2 := [F3 code pl its, T i q []]) rfl ?_).trans ih
      unfold roR
      simp only [ro5b1b, lits]
      simp [gi, hk]
end
end K26

namespace K26
open MP PySem L2
/-! ### an instruction is drawn -/
noncomputable def rn1 : CS := (cAsg (tgN 9) (cCall m__law_instr (caCons (cV 0) (caCons (cV 1) (caCons (cK (.int 15)) caNil)))))
noncomputable def rn2 : CS := (cAsg (tgN 10) (cMeth "str" gSplit (cCall m_instruction_text (caCons (cV 9) caNil)) (caCons (cK (.str " ")) caNil)))
noncomputable def rn3 : CS := (cIfS (tAnd (cTB (cB gMem (cB gItem (cV 10) (cK (.int 0))) (cTup (caCons (cK (.str "bz")) (caCons (cK (.str "bn")) (caCons (cK (.str "jmp")) (caCons (cK (.str "jal")) caNil))))))) (cTB (cB gNeA (cV 5) (cLst caNil)))) ro5b2t3t cNext)
noncomputable def rn4 : CS := (cDrop (cApp (cV 7) (cV 10)))
noncomputable def rn5 : CS := (cDrop (cApp (cV 3) (cV 9)))
theorem ro5b2t_eq : ro5b2t = cSeq rn1 (cSeq rn2 (cSeq rn3 (cSeq rn4 (rn5)))) := rfl
noncomputable def rm1 : CS := (cAsg (tgN 6) (cB gItem (cV 5) (cCall m__law_draw (caCons (cV 0) (caCons (cV 1) (caCons (cCall gLenA (caCons (cV 5) caNil)) caNil))))))
noncomputable def rm2 : CS := (cPar [10, 9] (caCons (cB gAddA (cSl (cV 10) coN (coS (cU gNeg (cK (.int 1))))) (cLst (caCons (cV 6) caNil))) (caCons (cB gAddA (cB gSub (cV 9) (cB gAnd (cV 9) (cK (.int 255)))) (cB gItem (cV 4) (cV 6))) caNil)))
theorem ro5b2t3t_eq : ro5b2t3t = cSeq rm1 (rm2) := rfl
theorem pform_of {n : Int} (h0 : 0 ≤ n) (h : n < 65536) (hw : [98, 122] = (formP n).1 ∨ [98, 110] = (formP n).1 ∨ [106, 109, 112] = (formP n).1 ∨ [106, 97, 108] = (formP n).1) : PForm n := by
  have ol := oP_lim h0 h
  have il := iP_lim n
  by_cases hs : spareP (oP n) (dP n) (sP n) (iP n) (baseP (oP n) (iP n)).2 = true
  · have e : formP n = (wordW, [119]) := by unfold formP; rw [if_pos hs]
    rw [e] at hw
    simp [wordW] at hw
  · have e : formP n = baseP (oP n) (iP n) := by unfold formP; rw [if_neg hs]
    unfold PForm
    rw [e] at hw ⊢
    by_cases h7 : oP n = 0 ∧ iP n < 7
    · have : iP n = 0 ∨ iP n = 1 ∨ iP n = 2 ∨ iP n = 3 ∨ iP n = 4 ∨ iP n = 5 ∨ iP n = 6 := by omega
      have b : baseP (oP n) (iP n) = (aluL.getD (iP n).toNat [], [100, 115]) := by
        unfold baseP
        rw [if_pos h7, h7.1]
        rfl
      rw [b] at hw
      rcases this with e | e | e | e | e | e | e <;> rw [e] at hw <;> simp [aluL] at hw
    · unfold baseP at hw ⊢
      rw [if_neg h7] at hw ⊢
      have ho : oP n = 0 ∨ oP n = 1 ∨ oP n = 2 ∨ oP n = 3 ∨ oP n = 4 ∨ oP n = 5 ∨ oP n = 6 ∨ oP n = 7 ∨ oP n = 8 ∨ oP n = 9 ∨ oP n = 10 ∨ oP n = 11 ∨ oP n = 12 ∨ oP n = 13 ∨ oP n = 14 ∨ oP n = 15 := by omega
      rcases ho with e | e | e | e | e | e | e | e | e | e | e | e | e | e | e | e <;> rw [e] at hw ⊢ <;> first | (simp [pickF, F, wordW] at hw; done) | exact ⟨[100], rfl⟩ | exact ⟨[], rfl⟩
theorem ne_nil (ws : Words) (h : ∀ w ∈ ws, asc w = true) (S : Sto) : gNe (.lst (ws.map fun w => D.str (tx w))) (.lst []) S = .ok (.bl (!decide (ws = []))) S := by
  have a : D.lay 2 (.lst (ws.map fun w => D.str (tx w))) = true := lays_strs 0 ws h
  have s := shaped_lay a (by decide)
  show (if SeqAt.shaped (D.lst (ws.map fun w => D.str (tx w))).toP && SeqAt.shaped (D.lst []).toP then R.ok (D.bl (!PyData.eqv (D.lst (ws.map fun w => D.str (tx w))).toP (D.lst []).toP)) S else .bad) = _
  rw [s, shaped_lnil]
  cases ws with
  | nil => simp [D.toP, D.toPs, PyData.eqv, PyData.eqvAll]
  | cons w ws => simp [D.toP, D.toPs, PyData.eqv, PyData.eqvAll]
theorem name_asc {w : List Nat} (h : nameG w = true) : asc w = true := by
  obtain ⟨c, r, _, _, _, _, hc⟩ := name_cons h
  refine List.all_eq_true.mpr fun d hd => decide_eq_true ?_
  rcases hc d hd with h | h
  · simp [isLet] at h; omega
  · simp [isFig] at h; omega
section
variable (ns : List Int)
abbrev nmD (names : Words) : D := .lst (names.map fun w => .str (tx w))
theorem rn34 (size : Int) (x6 x9 : Option D) (k : Int) (code : List Int) (pl : Labs) (its : List It) (names : Words) (hnm : ∀ w ∈ names, nameG w = true ∧ ∃ v, lookL pl w = some v) (hnl : names.length ≤ 10) {n : Int} (n0 : 0 ≤ n) (n1 : n < 65536) {i q : Int} (t : StOk i q) :
    ∃ (o : Option (List Nat)) (num : Int) (i' q' : Int) (x6' : Option D), StOk i' q' ∧ itOk (.ins n o) ∧ (∀ w, o = some w → w ∈ names) ∧ codeI pl [.ins n o] = [num] ∧
    rn3 (roR ns size (some (nmD names)) x6 (some (.ref 1 2)) (some (.int k)) (some (.int n)) (some (wsD (rowW n)))) [F3 code pl its, T i q []] = .nx (roR ns size (some (nmD names)) x6' (some (.ref 1 2)) (some (.int k)) (some (.int num)) (some (wsD (itW (.ins n o))))) [F3 code pl its, T i' q' []] := by
  have ne := fun S => ne_nil names (fun w hw => name_asc (hnm w hw).1) S
  have a0 : ∀ S, gItem (wsD (rowW n)) (.int 0) S = .ok (.str (tx (formP n).1)) S := fun S => by
    rw [gItem_of S _ _ rfl, gIx_l]
    unfold rowW
    rw [List.map_cons, atI_0]
  by_cases hw : [98, 122] = (formP n).1 ∨ [98, 110] = (formP n).1 ∨ [106, 109, 112] = (formP n).1 ∨ [106, 97, 108] = (formP n).1
  · by_cases hn : names = []
    · subst hn
      refine ⟨none, n, i, q, x6, t, ⟨n0, n1⟩, by simp, rfl, ?_⟩
      have e0 : itW (.ins n none) = rowW n := rfl
      rw [e0]
      have ne' : ∀ S, gNeA (nmD []) (.lst []) S = .ok (.bl false) S := fun S => ne S
      unfold roR
      generalize wsD (rowW n) = W at *
      generalize nmD [] = NM at *
      simp only [rn3, lits]
      simp [a0, hw, ne']
    · have hp := pform_of n0 n1 hw
      have hl : 0 < names.length := List.length_pos_iff.mpr hn
      obtain ⟨r, i1, q1, t1, r0, r1, e1⟩ := draw_ok (ns := ns) (size := names.length) [F3 code pl its] [] t (by omega)
      simp only [List.cons_append, List.nil_append] at e1
      obtain ⟨w, hwm, hat⟩ : ∃ w, w ∈ names ∧ atI (names.map fun w => D.str (tx w)) r = some (.str (tx w)) := by
        have hr : r.toNat < names.length := by omega
        refine ⟨names[r.toNat], List.getElem_mem hr, ?_⟩
        rw [atI_nn r0]
        simp [hr]
      obtain ⟨hg, v, hv⟩ := hnm w hwm
      have g := getA_lab w pl
      rw [hv] at g
      have gi := gItem_ref (l := 1) (n := 1) (S := [F3 code pl its, T i1 q1 []]) (ks := labK pl) (vs := labV pl) rfl (tx w)
      rw [g] at gi
      simp only [Option.map_some] at gi
      refine ⟨some w, n - n % 256 + v, i1, q1, some (.str (tx w)), t1, ⟨⟨n0, n1⟩, hp, hg⟩, fun u hu => by cases hu; exact hwm, by simp [codeI, hv], ?_⟩
      have lN : ∀ S, gLenA [nmD names] S = .ok (.int names.length) S := fun S => by
        have : names.length ≤ 16000000 := by omega
        rw [gLenA_of S _ rfl, gLen_l]; simp [this]
      have aN : ∀ S, gItem (nmD names) (.int r) S = .ok (.str (tx w)) S := fun S => by
        rw [gItem_of S _ _ rfl, gIx_l, hat]
      have hcut : cutL ((rowW n).map fun w => D.str (tx w)) none (some (-1)) ++ [.str (tx w)] = (itW (.ins n (some w))).map fun w => .str (tx w) := by
        obtain ⟨g', eg⟩ := hp
        rw [cutL_last]
        show _ = ((formP n).1 :: ((formP n).2.dropLast.map (partT n) ++ [w])).map fun w => D.str (tx w)
        unfold rowW
        rw [dropLast_form eg, eg, ← List.map_dropLast, List.map_append, List.map_cons, List.map_nil, ← List.cons_append, List.dropLast_concat]
        simp
      have len3 := (form_len n).1
      have cl : (cutL ((rowW n).map fun w => D.str (tx w)) none (some (-1))).length + 1 ≤ 16000000 := by
        rw [cutL_last, List.length_dropLast, List.length_map]
        unfold rowW
        simp; omega
      have sl : ∀ S, gSl (wsD (rowW n)) none (some (-1)) S = .ok (.lst (cutL ((rowW n).map fun w => D.str (tx w)) none (some (-1)))) S := fun S => rfl
      unfold roR
      have e0 : wsD (itW (.ins n (some w))) = .lst (cutL ((rowW n).map fun w => D.str (tx w)) none (some (-1)) ++ [.str (tx w)]) := by rw [hcut]
      rw [e0]
      generalize cutL ((rowW n).map fun w => D.str (tx w)) none (some (-1)) = cu at *
      generalize wsD (rowW n) = W at *
      have hne : (names = []) = False := eq_false hn
      simp only [rn3, rm1, rm2, ro5b2t3t_eq, lits]
      have ne' : ∀ S, gNeA (nmD names) (.lst []) S = .ok (.bl true) S := fun S => by
        have := ne S
        rw [decide_eq_false hn] at this
        exact this
      generalize nmD names = NM at *
      simp [a0, hw, ne', lN, e1, aN, sl, cl, gi]
  · refine ⟨none, n, i, q, x6, t, ⟨n0, n1⟩, by simp, rfl, ?_⟩
    have e0 : itW (.ins n none) = rowW n := rfl
    rw [e0]
    unfold roR
    generalize wsD (rowW n) = W at *
    simp only [rn3, lits]
    simp [a0, hw]
end
end K26

namespace K26
open MP PySem L2
/-! ### all rows -/
def cntI (its : List It) : Nat := (its.filter fun i => match i with | .ins _ _ => true | _ => false).length
theorem labsI_app' (a b : List It) (p : Int) : labsI (a ++ b) p = labsI a p ++ labsI b (p + cntI a) := labsI_app a b p
theorem cntI_app (a b : List It) : cntI (a ++ b) = cntI a + cntI b := by unfold cntI; rw [List.filter_append, List.length_append]
theorem codeI_app (pl : Labs) : ∀ a b : List It, codeI pl (a ++ b) = codeI pl a ++ codeI pl b
  | [], _ => rfl
  | .lab w :: a, b => by rw [List.cons_append, codeI, codeI, codeI_app pl a b]
  | .ins n none :: a, b => by rw [List.cons_append, codeI, codeI, codeI_app pl a b]; rfl
  | .ins n (some w) :: a, b => by rw [List.cons_append, codeI, codeI, codeI_app pl a b]; rfl
theorem labs_only (ws : Words) : namesI (ws.map It.lab) = ws ∧ cntI (ws.map It.lab) = 0 ∧ (∀ pl, codeI pl (ws.map It.lab) = []) ∧ (∀ p, labsI (ws.map It.lab) p = ws.map fun w => (w, p)) := by
  induction ws with
  | nil => exact ⟨rfl, rfl, fun _ => rfl, fun _ => rfl⟩
  | cons w ws ih =>
    obtain ⟨a, b, c, d⟩ := ih
    refine ⟨by rw [List.map_cons, namesI, a], ?_, fun pl => by rw [List.map_cons, codeI, c], fun p => by rw [List.map_cons, labsI, d, List.map_cons]⟩
    unfold cntI at b ⊢
    rw [List.map_cons, List.filter_cons]
    exact b
structure Part (names : Words) (pl : Labs) (k : Nat) (its : List It) : Prop where
  ok : ∀ i ∈ its, itOk i
  nd : (namesI its).Nodup
  mem : ∀ w, w ∈ namesI its ↔ (w ∈ names ∧ ∃ v : Int, v < k ∧ lookL pl w = some v)
  labs : ∀ p ∈ labsI its 0, lookL pl p.1 = some p.2
  cnt : cntI its = k
  len : its.length = k + (namesI its).length
  ref : ∀ n w, .ins n (some w) ∈ its → w ∈ names
/-- the labels of place k are laid -/
theorem Part.labels {names : Words} {pl : Labs} {k : Nat} {its : List It} (h : Part names pl k its) (hn : names.Nodup) (hg : ∀ w ∈ names, nameG w = true) :
    (∀ i ∈ its ++ (names.filter fun w => decide (lookL pl w = some (k : Int))).map It.lab, itOk i) ∧ (namesI (its ++ (names.filter fun w => decide (lookL pl w = some (k : Int))).map It.lab)).Nodup ∧
    (∀ w, w ∈ namesI (its ++ (names.filter fun w => decide (lookL pl w = some (k : Int))).map It.lab) ↔ (w ∈ names ∧ ∃ v : Int, v < (k + 1 : Nat) ∧ lookL pl w = some v) ∧ (w ∈ namesI its ∨ lookL pl w = some (k : Int))) ∧
    (∀ p ∈ labsI (its ++ (names.filter fun w => decide (lookL pl w = some (k : Int))).map It.lab) 0, lookL pl p.1 = some p.2) := by
  obtain ⟨a, b, c, d⟩ := labs_only (names.filter fun w => decide (lookL pl w = some (k : Int)))
  have fm : ∀ w, w ∈ names.filter (fun w => decide (lookL pl w = some (k : Int))) ↔ w ∈ names ∧ lookL pl w = some (k : Int) := fun w => by rw [List.mem_filter, decide_eq_true_eq]
  refine ⟨fun i hi => ?_, ?_, fun w => ?_, fun p hp => ?_⟩
  · rcases List.mem_append.mp hi with hi | hi
    · exact h.ok i hi
    · obtain ⟨w, hw, rfl⟩ := List.mem_map.mp hi
      exact hg w ((fm w).mp hw).1
  · rw [namesI_app, a]
    refine List.nodup_append.mpr ⟨h.nd, hn.sublist List.filter_sublist, fun x hx y hy e => ?_⟩
    subst e
    obtain ⟨_, v, hv, e1⟩ := (h.mem x).mp hx
    have e2 := ((fm x).mp hy).2
    rw [e1] at e2
    cases e2
    omega
  · rw [namesI_app, a, List.mem_append, fm, h.mem]
    constructor
    · rintro (⟨h1, v, h2, h3⟩ | ⟨h1, h2⟩)
      · exact ⟨⟨h1, v, by omega, h3⟩, .inl ⟨h1, v, h2, h3⟩⟩
      · exact ⟨⟨h1, k, by omega, h2⟩, .inr h2⟩
    · rintro ⟨⟨h1, _⟩, h2 | h2⟩
      · exact .inl h2
      · exact .inr ⟨h1, h2⟩
  · rw [labsI_app', List.mem_append] at hp
    rcases hp with hp | hp
    · exact h.labs p hp
    · rw [d] at hp
      obtain ⟨w, hw, rfl⟩ := List.mem_map.mp hp
      rw [h.cnt]
      have := ((fm w).mp hw).2
      simpa using this
theorem Part.next {names : Words} {pl : Labs} {k : Nat} {its : List It} (h : Part names pl k its) (hn : names.Nodup) (hg : ∀ w ∈ names, nameG w = true) {n : Int} {o : Option (List Nat)} (ok : itOk (.ins n o)) (ho : ∀ w, o = some w → w ∈ names) :
    Part names pl (k + 1) (its ++ (names.filter fun w => decide (lookL pl w = some (k : Int))).map It.lab ++ [.ins n o]) := by
  obtain ⟨h1, h2, h3, h4⟩ := h.labels hn hg
  obtain ⟨a, b, c, d⟩ := labs_only (names.filter fun w => decide (lookL pl w = some (k : Int)))
  have nm : namesI (its ++ (names.filter fun w => decide (lookL pl w = some (k : Int))).map It.lab ++ [.ins n o]) = namesI (its ++ (names.filter fun w => decide (lookL pl w = some (k : Int))).map It.lab) := by rw [namesI_app]; simp [namesI]
  refine ⟨fun i hi => ?_, by rw [nm]; exact h2, fun w => ?_, fun p hp => ?_, ?_, ?_, fun m w hm => ?_⟩
  · rcases List.mem_append.mp hi with hi | hi
    · exact h1 i hi
    · rw [List.mem_singleton] at hi; subst hi; exact ok
  · rw [nm, h3]
    constructor
    · exact fun e => e.1
    · rintro ⟨e1, v, e2, e3⟩
      refine ⟨⟨e1, v, e2, e3⟩, ?_⟩
      by_cases z : v < k
      · exact .inl ((h.mem w).mpr ⟨e1, v, z, e3⟩)
      · have : v = k := by omega
        subst this
        exact .inr e3
  · rw [labsI_app'] at hp
    rcases List.mem_append.mp hp with hp | hp
    · exact h4 p hp
    · simp [labsI] at hp
  · rw [cntI_app, cntI_app, b, h.cnt]; rfl
  · rw [nm, namesI_app, a, List.length_append, List.length_append, List.length_append, List.length_map, h.len]
    simp; omega
  · rcases List.mem_append.mp hm with hm | hm
    · rcases List.mem_append.mp hm with hm | hm
      · exact h.ref m w hm
      · obtain ⟨u, _, e⟩ := List.mem_map.mp hm
        cases e
    · rw [List.mem_singleton] at hm
      cases hm
      exact ho w rfl
theorem nodup_len {a b : Words} (ha : a.Nodup) (hb : b.Nodup) (h : ∀ w, w ∈ a ↔ w ∈ b) : a.length = b.length :=
  ((List.perm_ext_iff_of_nodup ha hb).mpr h).length_eq
/-- all is laid -/
theorem Part.last {names : Words} {pl : Labs} {size : Nat} {its : List It} (h : Part names pl size its) (hn : names.Nodup) (hg : ∀ w ∈ names, nameG w = true) (hp : pl.map Prod.fst = names) (hv : ∀ p ∈ pl, 0 ≤ p.2 ∧ p.2 ≤ size) (hs : size ≤ 12) (hl : names.length ≤ 4) :
    GoodR (its ++ (names.filter fun w => decide (lookL pl w = some (size : Int))).map It.lab) pl ∧ (its ++ (names.filter fun w => decide (lookL pl w = some (size : Int))).map It.lab).length = size + names.length := by
  obtain ⟨h1, h2, h3, h4⟩ := h.labels hn hg
  obtain ⟨a, b, c, d⟩ := labs_only (names.filter fun w => decide (lookL pl w = some (size : Int)))
  have all : ∀ w, w ∈ namesI (its ++ (names.filter fun w => decide (lookL pl w = some (size : Int))).map It.lab) ↔ w ∈ names := fun w => by
    rw [h3]
    constructor
    · exact fun e => e.1.1
    · intro hm
      obtain ⟨v, e⟩ := look_in (lab := pl) (w := w) (by rw [hp]; exact hm)
      have := hv _ (look_mem e)
      simp only at this
      refine ⟨⟨hm, v, by omega, e⟩, ?_⟩
      by_cases z : v < size
      · exact .inl ((h.mem w).mpr ⟨hm, v, z, e⟩)
      · have : v = size := by omega
        subst this
        exact .inr e
  have nl := nodup_len h2 hn all
  have len : (its ++ (names.filter fun w => decide (lookL pl w = some (size : Int))).map It.lab).length = size + names.length := by
    rw [← nl, namesI_app, a, List.length_append, List.length_append, List.length_map, h.len]
    omega
  refine ⟨⟨h1, h2, by omega, h4, ?_, fun n w hm => ?_⟩, len⟩
  · have := congrArg List.length (labsI_names (its ++ (names.filter fun w => decide (lookL pl w = some (size : Int))).map It.lab) 0)
    rw [List.length_map] at this
    rw [this, nl, ← hp, List.length_map]
  · rcases List.mem_append.mp hm with hm | hm
    · exact (all w).mpr (h.ref n w hm)
    · obtain ⟨u, _, e⟩ := List.mem_map.mp hm
      cases e
end K26

namespace K26
open MP PySem L2
section
variable (ns : List Int)
theorem ro5b2_ok (size : Int) (x6 x9 x10 : Option D) (k : Int) (hk : k < size) (pl : Labs) (its : List It) (hit : its.length ≤ 1000) (names : Words) (hnm : ∀ w ∈ names, nameG w = true ∧ ∃ v, lookL pl w = some v) (hnl : names.length ≤ 10) {i q : Int} (t : StOk i q) :
    ∃ (n : Int) (o : Option (List Nat)) (i' q' : Int) (x6' x9' x10' : Option D), StOk i' q' ∧ itOk (.ins n o) ∧ (∀ w, o = some w → w ∈ names) ∧
    ro5b2t (roR ns size (some (nmD names)) x6 (some (.ref 1 2)) (some (.int k)) x9 x10) [F3 (codeI pl its) pl its, T i q []] = .nx (roR ns size (some (nmD names)) x6' (some (.ref 1 2)) (some (.int k)) x9' x10') [F3 (codeI pl (its ++ [.ins n o])) pl (its ++ [.ins n o]), T i' q' []] := by
  obtain ⟨n, i1, q1, t1, n0, n1, e1⟩ := instrD_ok (ns := ns) [F3 (codeI pl its) pl its] [] t
  simp only [List.cons_append, List.nil_append] at e1
  obtain ⟨o, num, i2, q2, y6, t2, ok, ho, hc, e3⟩ := rn34 ns size x6 none k (codeI pl its) pl its names hnm hnl n0 n1 t1
  have h1 : rn1 (roR ns size (some (nmD names)) x6 (some (.ref 1 2)) (some (.int k)) x9 x10) [F3 (codeI pl its) pl its, T i q []] = .nx (roR ns size (some (nmD names)) x6 (some (.ref 1 2)) (some (.int k)) (some (.int n)) x10) [F3 (codeI pl its) pl its, T i1 q1 []] := by
    unfold roR
    simp only [rn1, lits]
    simp [e1]
  have h2 : rn2 (roR ns size (some (nmD names)) x6 (some (.ref 1 2)) (some (.int k)) (some (.int n)) x10) [F3 (codeI pl its) pl its, T i1 q1 []] = .nx (roR ns size (some (nmD names)) x6 (some (.ref 1 2)) (some (.int k)) (some (.int n)) (some (wsD (rowW n)))) [F3 (codeI pl its) pl its, T i1 q1 []] := by
    have a1 := fun S => text_ok n0 n1 S
    have l := rowT_len n1
    have a2 : ∀ S, gSplit (.str (tx (rowT n))) [.str (tx [32])] S = .ok (wsD (rowW n)) S := fun S => by
      rw [gSplit_tx (rowT n) 32 S (by decide) (by omega)]
      have sj : TL.spl [32] 0 [] (rowT n) = rowW n := TL.spl_join (row_clean n).1 fun p hp hm => by
        have := ((row_clean n).2 p hp).2 32 hm; omega
      rw [sj]
    unfold roR
    generalize wsD (rowW n) = W at *
    simp only [rn2, lits]
    simp [a1, a2]
  have ls := rowsD_les 1 (its ++ [.ins n o])
  rw [rowsD_snoc] at ls
  have il : (rowsD its).length < 16000000 := by rw [rowsD_len]; omega
  have h4 : rn4 (roR ns size (some (nmD names)) y6 (some (.ref 1 2)) (some (.int k)) (some (.int num)) (some (wsD (itW (.ins n o))))) [F3 (codeI pl its) pl its, T i2 q2 []] = .nx (roR ns size (some (nmD names)) y6 (some (.ref 1 2)) (some (.int k)) (some (.int num)) (some (wsD (itW (.ins n o))))) [F3 (codeI pl its) pl (its ++ [.ins n o]), T i2 q2 []] := by
    unfold roR F3
    rw [rowsD_snoc]
    generalize wsD (itW (.ins n o)) = W at *
    simp only [rn4, lits]
    simp [look, put, ls, il]
  have cl : ∀ a : List It, (codeI pl a).length ≤ a.length := by
    intro a
    induction a with
    | nil => exact Nat.le_refl _
    | cons x a ih =>
      cases x with
      | lab w => rw [codeI, List.length_cons]; omega
      | ins m u =>
        cases u with
        | none => rw [codeI, List.length_cons, List.length_cons]; omega
        | some u => rw [codeI, List.length_cons, List.length_cons]; omega
  have h5 : rn5 (roR ns size (some (nmD names)) y6 (some (.ref 1 2)) (some (.int k)) (some (.int num)) (some (wsD (itW (.ins n o))))) [F3 (codeI pl its) pl (its ++ [.ins n o]), T i2 q2 []] = .nx (roR ns size (some (nmD names)) y6 (some (.ref 1 2)) (some (.int k)) (some (.int num)) (some (wsD (itW (.ins n o))))) [F3 (codeI pl (its ++ [.ins n o])) pl (its ++ [.ins n o]), T i2 q2 []] := by
    have ls2 := les_ints 1 (codeI pl its ++ [num])
    rw [List.map_append, List.map_cons, List.map_nil] at ls2
    have il2 : (codeI pl its).length < 16000000 := by have := cl its; omega
    rw [codeI_app, hc]
    unfold roR F3
    generalize wsD (itW (.ins n o)) = W at *
    generalize rowsD (its ++ [.ins n o]) = RD at *
    simp only [rn5, lits]
    simp [look, put, ls2, il2]
  refine ⟨n, o, i2, q2, y6, some (.int num), some (wsD (itW (.ins n o))), t2, ok, ho, ?_⟩
  rw [ro5b2t_eq]
  simp only [cSeq_eq, h1, h2, e3, h4, h5, RSt.andThen_nx]
theorem ro5_run (size : Nat) (hs : size ≤ 12) (pl : Labs) (names : Words) (hn : names.Nodup) (hnm : ∀ w ∈ names, nameG w = true ∧ w.length ≤ 7 ∧ ∃ v, lookL pl w = some v) (hnl : names.length ≤ 4) : ∀ (m k : Nat) (its : List It) {i q : Int} (x6 x8 x9 x10 : Option D), k + m = size → Part names pl k its → StOk i q → ∃ (its' : List It) (i' q' : Int) (x6' x8' x9' x10' : Option D), StOk i' q' ∧ Part names pl size its' ∧
    forL (tgN 8) ro5b (rngD k (m + 1)) (roR ns size (some (nmD names)) x6 (some (.ref 1 2)) x8 x9 x10) [F3 (codeI pl its) pl its, T i q []] = .nx (roR ns size (some (nmD names)) x6' (some (.ref 1 2)) x8' x9' x10') [F3 (codeI pl (its' ++ (names.filter fun w => decide (lookL pl w = some (size : Int))).map It.lab)) pl (its' ++ (names.filter fun w => decide (lookL pl w = some (size : Int))).map It.lab), T i' q' []]
  | m, k, its, i, q, x6, x8, x9, x10, hk, h, t => by
    have l1 : (namesI its).length ≤ names.length := by
      have := nodup_len (b := names.filter fun w => decide (w ∈ namesI its)) h.nd (hn.sublist List.filter_sublist) fun w => by
        rw [List.mem_filter, decide_eq_true_eq]
        exact ⟨fun hw => ⟨((h.mem w).mp hw).1, hw⟩, fun hw => hw.2⟩
      rw [this]
      exact List.length_filter_le _ _
    have hl := h.len
    obtain ⟨y6, e1⟩ := ro5b1_run ns size (some (nmD names)) x9 x10 k (codeI pl its) pl i q names its x6 (fun w hw => ⟨(hnm w hw).2.1, (hnm w hw).2.2⟩) (by omega)
    have codeL : codeI pl (its ++ (names.filter fun w => decide (lookL pl w = some (k : Int))).map It.lab) = codeI pl its := by
      rw [codeI_app, (labs_only _).2.2.1, List.append_nil]
    have eA : (cForA (cV 5) (tgN 6) ro5b1b) (roR ns size (some (nmD names)) x6 (some (.ref 1 2)) (some (.int k)) x9 x10) [F3 (codeI pl its) pl its, T i q []] = .nx (roR ns size (some (nmD names)) y6 (some (.ref 1 2)) (some (.int k)) x9 x10) [F3 (codeI pl (its ++ (names.filter fun w => decide (lookL pl w = some (k : Int))).map It.lab)) pl (its ++ (names.filter fun w => decide (lookL pl w = some (k : Int))).map It.lab), T i q []] := by
      rw [codeL]
      refine Eq.trans ?_ e1
      unfold roR
      simp
    cases m with
    | zero =>
      have : k = size := by omega
      subst this
      refine ⟨its, i, q, y6, some (.int k), x9, x10, t, h, ?_⟩
      rw [rngD_succ, rngD_zero]
      refine (forL_nx (ρ1 := roR ns k (some (nmD names)) x6 (some (.ref 1 2)) (some (.int k)) x9 x10) rfl ?_).trans (forL_nil _ _ (tgN 8) ro5b)
      unfold ro5b
      rw [cSeq_eq, eA, RSt.andThen_nx]
      unfold roR
      simp
    | succ m =>
      have fl : (names.filter fun w => decide (lookL pl w = some (k : Int))).length ≤ names.length := List.length_filter_le _ _
      obtain ⟨n, o, i1, q1, z6, z9, z10, t1, ok, ho, e2⟩ := ro5b2_ok ns size y6 x9 x10 k (by omega) pl (its ++ (names.filter fun w => decide (lookL pl w = some (k : Int))).map It.lab) (by rw [List.length_append, List.length_map]; omega) names (fun w hw => ⟨(hnm w hw).1, (hnm w hw).2.2⟩) (by omega) t
      have h' := h.next hn (fun w hw => (hnm w hw).1) ok ho
      obtain ⟨its', i2, q2, w6, w8, w9, w10, t2, h2, e3⟩ := ro5_run size hs pl names hn hnm hnl m (k + 1) _ (i := i1) (q := q1) z6 (some (.int k)) z9 z10 (by omega) h' t1
      refine ⟨its', i2, q2, w6, w8, w9, w10, t2, h2, ?_⟩
      rw [rngD_succ]
      refine (forL_nx (ρ1 := roR ns size (some (nmD names)) x6 (some (.ref 1 2)) (some (.int k)) x9 x10) rfl ?_).trans e3
      unfold ro5b
      rw [cSeq_eq, eA, RSt.andThen_nx]
      have hk' : (k : Int) < size := by omega
      have e4 : (cIfS (cTB (cB gLtA (cV 8) (cV 2))) ro5b2t cNext) (roR ns size (some (nmD names)) y6 (some (.ref 1 2)) (some (.int k)) x9 x10) [F3 (codeI pl (its ++ (names.filter fun w => decide (lookL pl w = some (k : Int))).map It.lab)) pl (its ++ (names.filter fun w => decide (lookL pl w = some (k : Int))).map It.lab), T i q []] = ro5b2t (roR ns size (some (nmD names)) y6 (some (.ref 1 2)) (some (.int k)) x9 x10) [F3 (codeI pl (its ++ (names.filter fun w => decide (lookL pl w = some (k : Int))).map It.lab)) pl (its ++ (names.filter fun w => decide (lookL pl w = some (k : Int))).map It.lab), T i q []] := by
        unfold roR
        have : k < size := by omega
        simp [this]
      rw [e4, e2]
theorem law_rows_ok {i q : Int} (t : StOk i q) : ∃ (its : List It) (pl : Labs) (i' q' : Int), StOk i' q' ∧ GoodR its pl ∧ its ≠ [] ∧ its.length ≤ 16 ∧ (∀ p ∈ pl, nameG p.1 = true) ∧
    m__law_rows [.ref 0 0, .rol (ns.map D.int)] [T i q []] = .ok (.tup [.lst (rowsD its), .tup ((codeI pl its).map D.int), labD pl]) [T i' q' []] := by
  obtain ⟨r1, i1, q1, t1, r10, r11, e1⟩ := draw_ok (ns := ns) (size := 12) [[]] [] t (by decide)
  simp only [List.cons_append, List.nil_append] at e1
  obtain ⟨size, hsz, hs1, hs12⟩ : ∃ size : Nat, 1 + r1 = size ∧ 1 ≤ size ∧ size ≤ 12 := ⟨(1 + r1).toNat, by omega, by omega, by omega⟩
  have h1 : ro1 [some (.ref 0 0), some (.rol (ns.map D.int)), none, none, none, none, none, none, none, none, none] [[], T i q []] = .nx (roR ns size none none none none none none) [[.lst [], .box (.dK (labK [])) (labV [])], T i1 q1 []] := by
    unfold roR
    simp only [ro1, lits]
    simp [e1, newAt, D.les, hsz]
  obtain ⟨m, i2, q2, t2, m0, m1, e2⟩ := draw_ok (ns := ns) (size := 5) [[.lst [], .box (.dK (labK [])) (labV [])]] [] t1 (by decide)
  simp only [List.cons_append, List.nil_append] at e2
  obtain ⟨names, i3, q3, t3, nf, nl, e3⟩ := names_run ns [[.lst [], .box (.dK (labK [])) (labV [])]] (roR ns size none none none none none none) rfl rfl rfl m.toNat 0 (by omega) t2
  have nl4 : names.length ≤ 4 := by omega
  have h2 : ro2 (roR ns size none none none none none none) [[.lst [], .box (.dK (labK [])) (labV [])], T i1 q1 []] = .nx (roR ns size (some (nmD names)) none none none none none) [[.lst [], .box (.dK (labK [])) (labV [])], T i3 q3 []] := by
    have b1 : -16000000 ≤ m ∧ m ≤ 16000000 := by omega
    have b6 : m.toNat ≤ 16000000 := by omega
    simp only [List.cons_append, List.nil_append] at e3
    have z : ((0 : Nat) : Int) = 0 := rfl
    rw [z] at e3
    unfold roR at e3 ⊢
    generalize ([.lst [], .box (.dK (labK [])) (labV [])] : List O) = fr at e2 e3 ⊢
    simp only [ro2, lits]
    simp [e2, b1, b6, e3]
  have hn := nf.nodup
  obtain ⟨pl, i4, q4, y6, t4, hp, hv, e4⟩ := ro3_run ns size (by omega) (some (nmD names)) none none none none names [] (i := i3) (q := q3) none (by simpa using hn) (by simp; omega) t3
  rw [List.nil_append] at e4
  have h3 : ro3 (roR ns size (some (nmD names)) none none none none none) [[.lst [], .box (.dK (labK [])) (labV [])], T i3 q3 []] = .nx (roR ns size (some (nmD names)) y6 none none none none) [[.lst [], .box (.dK (labK pl)) (labV pl)], T i4 q4 []] := by
    refine Eq.trans ?_ e4
    unfold roR
    simp [ro3]
  have h4 : ro4 (roR ns size (some (nmD names)) y6 none none none none) [[.lst [], .box (.dK (labK pl)) (labV pl)], T i4 q4 []] = .nx (roR ns size (some (nmD names)) y6 (some (.ref 1 2)) none none none) [F3 (codeI pl []) pl [], T i4 q4 []] := by
    unfold roR F3
    simp [ro4, newAt, D.les, codeI, rowsD]
  have P0 : Part names pl 0 [] := ⟨fun i hi => by simp at hi, by simp [namesI], fun w => by
    simp only [namesI, List.not_mem_nil, false_iff, not_and]
    rintro _ ⟨v, v0, hv'⟩
    have := hv _ (look_mem hv')
    simp only at this
    omega, fun p hp => by simp [labsI] at hp, rfl, rfl, fun n w hm => by simp at hm⟩
  have hnm : ∀ w ∈ names, nameG w = true ∧ w.length ≤ 7 ∧ ∃ v, lookL pl w = some v := fun w hw => by
    obtain ⟨a, b, _⟩ := nf.last hw
    exact ⟨a, b, look_in (by rw [hp]; exact hw)⟩
  obtain ⟨its', i5, q5, z6, z8, z9, z10, t5, P5, e5⟩ := ro5_run ns size hs12 pl names hn hnm nl4 size 0 [] (i := i4) (q := q4) y6 none none none (by omega) P0 t4
  have h5 : ro5 (roR ns size (some (nmD names)) y6 (some (.ref 1 2)) none none none) [F3 (codeI pl []) pl [], T i4 q4 []] = .nx (roR ns size (some (nmD names)) z6 (some (.ref 1 2)) z8 z9 z10) [F3 (codeI pl (its' ++ (names.filter fun w => decide (lookL pl w = some (size : Int))).map It.lab)) pl (its' ++ (names.filter fun w => decide (lookL pl w = some (size : Int))).map It.lab), T i5 q5 []] := by
    refine Eq.trans ?_ e5
    have b1 : -16000000 ≤ (size : Int) + 1 ∧ (size : Int) + 1 ≤ 16000000 := by omega
    have b2 : ((size : Int) + 1).toNat = size + 1 := by omega
    unfold roR
    simp only [ro5, lits]
    simp [b1, b2]
  obtain ⟨G, gl⟩ := P5.last hn (fun w hw => (hnm w hw).1) hp hv hs12 nl4
  generalize its' ++ (names.filter fun w => decide (lookL pl w = some (size : Int))).map It.lab = its at *
  have hne : its ≠ [] := fun e => by rw [e] at gl; simp at gl; omega
  have gt : gTuple [.ref 1 0] [F3 (codeI pl its) pl its, T i5 q5 []] = .ok (.tup ((codeI pl its).map D.int)) [F3 (codeI pl its) pl its, T i5 q5 []] := rfl
  have h6 : ro6 (roR ns size (some (nmD names)) z6 (some (.ref 1 2)) z8 z9 z10) [F3 (codeI pl its) pl its, T i5 q5 []] = .ret (.tup [.ref 1 2, .tup ((codeI pl its).map D.int), .ref 1 1]) [F3 (codeI pl its) pl its, T i5 q5 []] := by
    unfold roR
    simp [ro6, gt]
  refine ⟨its, pl, i5, q5, t5, G, hne, by omega, fun p hp' => (hnm p.1 (by rw [← hp]; exact List.mem_map_of_mem hp')).1, ?_⟩
  show runF 11 c__law_rows _ _ = _
  rw [runF_out, c__law_rows_eq]
  simp only [List.map_cons, List.map_nil, List.length_cons, List.length_nil, List.replicate, List.cons_append, List.nil_append, Nat.reduceAdd, Nat.reduceSub, cSeq_eq]
  rw [h1]
  simp only [RSt.andThen_nx, cSeq_eq, h2, h3, h4, h5]
  rw [h6, outF_ret]
  have f1 : ∀ n, mapO (D.fz (F3 (codeI pl its) pl its) 1 (n + 3)) (rowsD its) = some (rowsD its) := fun n => by
    have : ∀ rs : List Words, mapO (D.fz (F3 (codeI pl its) pl its) 1 (n + 3)) (rs.map wsD) = some (rs.map wsD) := by
      intro rs
      induction rs with
      | nil => rfl
      | cons ws rs ih =>
        have a : D.fz (F3 (codeI pl its) pl its) 1 (n + 3) (wsD ws) = some (wsD ws) := by
          have b : ∀ l : Words, mapO (D.fz (F3 (codeI pl its) pl its) 1 (n + 2)) (l.map fun w => D.str (tx w)) = some (l.map fun w => .str (tx w)) := by
            intro l
            induction l with
            | nil => rfl
            | cons w l ih2 =>
              have c : D.fz (F3 (codeI pl its) pl its) 1 (n + 2) (.str (tx w)) = some (.str (tx w)) := rfl
              rw [List.map_cons]
              simp only [mapO, c, ih2]
          show (match mapO (D.fz (F3 (codeI pl its) pl its) 1 (n + 2)) (ws.map fun w => D.str (tx w)) with
            | some ys => some (D.lst ys)
            | none => none) = _
          rw [b]
        rw [List.map_cons]
        simp only [mapO, a, ih]
    exact this _
  have f2 : ∀ n, mapO (D.fz (F3 (codeI pl its) pl its) 1 (n + 1)) (labV pl) = some (labV pl) := fun n => by
    have : ∀ l : Labs, mapO (D.fz (F3 (codeI pl its) pl its) 1 (n + 1)) (labV l) = some (labV l) := by
      intro l
      induction l with
      | nil => rfl
      | cons p l ih =>
        have f : D.fz (F3 (codeI pl its) pl its) 1 (n + 1) (.int p.2) = some (.int p.2) := rfl
        show mapO (D.fz (F3 (codeI pl its) pl its) 1 (n + 1)) (.int p.2 :: labV l) = some (.int p.2 :: labV l)
        simp only [mapO, f, ih]
    exact this pl
  have f3 : ∀ n, mapO (D.fz (F3 (codeI pl its) pl its) 1 (n + 1)) ((codeI pl its).map D.int) = some ((codeI pl its).map D.int) := fun n => by
    have : ∀ l : List Int, mapO (D.fz (F3 (codeI pl its) pl its) 1 (n + 1)) (l.map D.int) = some (l.map D.int) := by
      intro l
      induction l with
      | nil => rfl
      | cons p l ih =>
        have f : D.fz (F3 (codeI pl its) pl its) 1 (n + 1) (.int p) = some (.int p) := rfl
        rw [List.map_cons]
        simp only [mapO, f, ih]
    exact this _
  have a1 : D.fz (F3 (codeI pl its) pl its) 1 39 (.ref 1 2) = some (.lst (rowsD its)) := fz_top _ 1 38 2 rfl (f1 35)
  have a2 : D.fz (F3 (codeI pl its) pl its) 1 39 (.ref 1 1) = some (labD pl) := fz_topB _ 1 38 1 rfl (f2 37)
  have a3 : D.fz (F3 (codeI pl its) pl its) 1 39 (.tup ((codeI pl its).map D.int)) = some (.tup ((codeI pl its).map D.int)) := by
    show (match mapO (D.fz (F3 (codeI pl its) pl its) 1 38) ((codeI pl its).map D.int) with
      | some ys => some (D.tup ys)
      | none => none) = _
    rw [f3 37]
  have z : D.fz (F3 (codeI pl its) pl its) 1 40 (.tup [.ref 1 2, .tup ((codeI pl its).map D.int), .ref 1 1]) = some (.tup [.lst (rowsD its), .tup ((codeI pl its).map D.int), labD pl]) := by
    show (match mapO (D.fz (F3 (codeI pl its) pl its) 1 39) [.ref 1 2, .tup ((codeI pl its).map D.int), .ref 1 1] with
      | some ys => some (D.tup ys)
      | none => none) = _
    simp only [mapO, a1, a2, a3]
  show leave _ (F3 (codeI pl its) pl its :: [T i5 q5 []]) = _
  unfold F3 at z ⊢
  simp only [leave]
  rw [show ([T i5 q5 []] : Sto).length = 1 from rfl, z]
end
end K26

namespace K26
open MP PySem L2
/-! ### one word bent -/
noncomputable def bw1 : CS := (cAsg (tgN 7) (cB gAddA (cK (.int 1)) (cCall m__law_draw (caCons (cV 0) (caCons (cV 1) (caCons (cB gSub (cCall gLenA (caCons (cV 5) caNil)) (cK (.int 1))) caNil))))))
noncomputable def bw2 : CS := (cAsg (tgN 8) (cB gItem (cLst (caCons (cK (.str "00")) (caCons (cK (.str "x9")) (caCons (cK (.str "999999")) (caCons (cK (.str "r4")) (caCons (cK (.str "0 1")) (caCons (cK (.str "65536")) (caCons (cK (.str "no")) caNil)))))))) (cCall m__law_draw (caCons (cV 0) (caCons (cV 1) (caCons (cK (.int 7)) caNil))))))
noncomputable def bw3 : CS := (cAsg (tgN 9) (cB gAddA (cB gAddA (cSl (cV 5) coN (coS (cV 7))) (cLst (caCons (cB gAddA (cB gItem (cMeth "str" gSplit (cV 8) (caCons (cK (.str " ")) caNil)) (cK (.int 0))) (cK (.str "!"))) caNil))) (cSl (cV 5) (coS (cB gAddA (cV 7) (cK (.int 1)))) coN)))
noncomputable def bw4 : CS := (cRet (cTup (caCons (cB gAddA (cB gAddA (cSl (cV 2) coN (coS (cV 4))) (cLst (caCons (cV 9) caNil))) (cSl (cV 2) (coS (cB gAddA (cV 4) (cK (.int 1)))) coN)) (caCons (cTup (caCons (cV 4) (caCons (cV 7) caNil))) caNil))))
theorem lb7t_eq : lb7t = cSeq bw1 (cSeq bw2 (cSeq bw3 (bw4))) := rfl
inductive Bent (its : List It) : List Words → Nat → Nat → Option (List Nat) → Prop
  | name {pre w post} : its = pre ++ .lab w :: post → Bent its (pre.map itW ++ badN w :: post.map itW) pre.length 0 (some w)
  | dup {w} : .lab w ∈ its → Bent its (its.map itW ++ [[w ++ [58]]]) its.length 0 none
  | row {pre n o post bad j} : its = pre ++ .ins n o :: post → isLab bad = false → toldE (labsI its 0) bad j → CleanR bad → Bent its (pre.map itW ++ bad :: post.map itW) pre.length j none
  | tail : Bent its (its.map itW ++ [[[106, 109, 112], [110, 111, 108, 97, 98, 101, 108]]]) its.length 1 none
theorem name_chars {w : List Nat} (h : nameG w = true) : ∀ c ∈ w, 33 ≤ c ∧ c ≠ 35 ∧ c < 128 ∧ c ≠ 58 := by
  obtain ⟨_, _, _, _, _, _, hc⟩ := name_cons h
  intro c hm
  rcases hc c hm with h | h
  · simp [isLet] at h; omega
  · simp [isFig] at h; omega
theorem lab_clean {w : List Nat} (h : nameG w = true) : CleanR [w ++ [58]] := by
  have hl := name_len h
  have hc := name_chars h
  refine ⟨by simp, by simp, fun u hu => ?_⟩
  rw [List.mem_singleton] at hu
  subst hu
  refine ⟨by simp, by simp; omega, fun c hm => ?_⟩
  rcases List.mem_append.mp hm with hm | hm
  · have := hc c hm; exact ⟨this.1, this.2.1, this.2.2.1⟩
  · rw [List.mem_singleton] at hm; subst hm; decide
theorem badN_clean {w : List Nat} (h : nameG w = true) : CleanR (badN w) := by
  have hl := name_len h
  have hc := name_chars h
  refine ⟨by simp [badN], by simp [badN], fun u hu => ?_⟩
  unfold badN at hu
  rw [List.mem_singleton] at hu
  subst hu
  refine ⟨by simp, by simp; omega, fun c hm => ?_⟩
  rcases List.mem_cons.mp hm with rfl | hm
  · decide
  · rcases List.mem_append.mp hm with hm | hm
    · have := hc c hm; exact ⟨this.1, this.2.1, this.2.2.1⟩
    · rw [List.mem_singleton] at hm; subst hm; decide
/-- what stands in a row of an instruction -/
theorem ins_parts {lab : Labs} (hL : GoodLab lab) {n : Int} {o : Option (List Nat)} (ok : itOk (.ins n o)) (st : Stands lab (.ins n o)) : ∃ (w0 : List Nat) (ps : Words) (v : Int), itW (.ins n o) = w0 :: ps ∧ RowG lab w0 ps v ∧ ps.length ≤ 3 ∧
    (∀ w ∈ w0 :: ps, w ≠ [] ∧ w.length ≤ 12 ∧ ∀ c ∈ w, 33 ≤ c ∧ c ≠ 35 ∧ c < 128 ∧ c ≠ 58) := by
  obtain ⟨l1, l2, l3, l4⟩ := form_len n
  cases o with
  | none =>
    refine ⟨(formP n).1, (formP n).2.map (partT n), n, rfl, rowG_none hL ok.1 ok.2, by rw [List.length_map]; exact l1, fun w hw => ?_⟩
    have cl := (row_clean n).2 w hw
    refine ⟨cl.1, ?_, fun c hc => by have := cl.2 c hc; omega⟩
    rcases List.mem_cons.mp hw with rfl | hw
    · omega
    · obtain ⟨c, _, rfl⟩ := List.mem_map.mp hw
      have := part_len ok.2 c; omega
  | some w =>
    obtain ⟨q, hq⟩ := st
    refine ⟨(formP n).1, _, _, rfl, rowG_some hL ok.1.1 ok.1.2 ok.2.1 (name_len ok.2.2) hq, ?_, fun u hu => ?_⟩
    · obtain ⟨g, eg⟩ := ok.2.1
      rw [dropLast_form eg, List.length_append, List.length_map, List.length_singleton]
      rw [eg, List.length_append, List.length_singleton] at l1
      exact l1
    · have base : ∀ u ∈ rowW n, u ≠ [] ∧ u.length ≤ 12 ∧ ∀ c ∈ u, 33 ≤ c ∧ c ≠ 35 ∧ c < 128 ∧ c ≠ 58 := fun u hu => by
        have cl := (row_clean n).2 u hu
        refine ⟨cl.1, ?_, fun c hc => by have := cl.2 c hc; omega⟩
        rcases List.mem_cons.mp hu with rfl | hu
        · omega
        · obtain ⟨c, _, rfl⟩ := List.mem_map.mp hu
          have := part_len ok.1.2 c; omega
      rcases List.mem_cons.mp hu with rfl | hu
      · exact base _ List.mem_cons_self
      · rcases List.mem_append.mp hu with hu | hu
        · obtain ⟨c, hc, rfl⟩ := List.mem_map.mp hu
          exact base _ (List.mem_cons_of_mem _ (List.mem_map_of_mem (List.dropLast_subset _ hc)))
        · rw [List.mem_singleton] at hu
          subst hu
          obtain ⟨c, r, e, _, _, l, _⟩ := name_cons ok.2.2
          exact ⟨by rw [e]; simp, l, name_chars ok.2.2⟩
theorem clean_of {ws : Words} (hne : ws ≠ []) (hl : ws.length ≤ 6) (h : ∀ w ∈ ws, w ≠ [] ∧ w.length ≤ 12 ∧ ∀ c ∈ w, 33 ≤ c ∧ c ≠ 35 ∧ c < 128 ∧ c ≠ 58) : CleanR ws :=
  ⟨hne, hl, fun w hw => ⟨(h w hw).1, by have := (h w hw).2.1; omega, fun c hc => by have := (h w hw).2.2 c hc; exact ⟨this.1, this.2.1, this.2.2.1⟩⟩⟩
theorem item_clean {lab : Labs} (hL : GoodLab lab) {i : It} (ok : itOk i) (st : Stands lab i) : CleanR (itW i) := by
  cases i with
  | lab w => exact lab_clean ok
  | ins n o =>
    obtain ⟨w0, ps, v, e, _, l, h⟩ := ins_parts hL ok st
    rw [e]
    exact clean_of (by simp) (by simp; omega) h
theorem clean_ok {ws : Words} (h : CleanR ws) : okWs ws := ⟨by have := h.len; omega, fun w hw => by have := (h.ws w hw).2.1; omega⟩
theorem bang_none (u : List Nat) {lab : Labs} (hL : GoodLab lab) (c : Nat) (hc : okC c) : partL (u ++ [33]) c lab = none := by
  have nb : ∀ l, numB (u ++ [33]) l = none := fun l => if_neg fun z => by
    have := List.all_eq_true.mp z.2.2.1 33 (by simp)
    simp [isFig] at this
  have nt : ∀ l, numB (u ++ [33]).tail l = none := fun l => by
    cases u with
    | nil => exact if_neg fun z => by simp at z
    | cons d u =>
      refine if_neg fun z => ?_
      have := List.all_eq_true.mp z.2.2.1 33 (by simp)
      simp [isFig] at this
  have ng : nameG (u ++ [33]) = false := by
    cases h : nameG (u ++ [33]) with
    | false => rfl
    | true =>
      obtain ⟨_, _, _, _, _, _, hcs⟩ := name_cons h
      have := hcs 33 (by simp)
      simp [isLet, isFig] at this
  rcases hc with rfl | rfl | rfl | rfl | rfl
  · simp [partL, nt]
  · simp [partL, nt]
  · simp [partL, nb]
  · simp only [partL, look_none hL ng, nb]; simp
  · simp [partL, nb]
end K26

namespace K26
open MP PySem L2
section
variable (ns : List Int)
def lbR (RD : List D) (PL : D) (k : Option D) (W : Option D) (kind : Option D) : Ro := [some (.ref 0 0), some (.rol (ns.map D.int)), some (.lst RD), some PL, k, W, kind, none, none, none]
/-- what the three parts of the rows are -/
structure Cut (RD : List D) (k : Nat) (PA PB : List D) (len : Nat) : Prop where
  rl : RD.length = len
  ra : cutL RD none (some (k : Int)) = PA
  rb : cutL RD (some ((k : Int) + 1)) none = PB
  la : PA.length ≤ 100
  lb : PB.length ≤ 100
  ll : len ≤ 100
theorem lb3_lab (RD : List D) (PL : D) (k : Nat) (w : List Nat) (kind : Int) {PA PB : List D} {len : Nat} (C : Cut RD k PA PB len) (hw : w.length ≤ 100) {i q : Int} (t : StOk i q) : ∃ i' q', StOk i' q' ∧
    (lb3 (lbR ns RD PL (some (.int k)) (some (.lst [.str (tx (w ++ [58]))])) (some (.int kind))) [[], T i q []] = .ret (.tup [.lst (PA ++ .lst [.str (tx (57 :: (w ++ [58])))] :: PB), .tup [.int k, .int 0]]) [[], T i' q' []] ∨
     lb3 (lbR ns RD PL (some (.int k)) (some (.lst [.str (tx (w ++ [58]))])) (some (.int kind))) [[], T i q []] = .ret (.tup [.lst (RD ++ [.lst [.str (tx (w ++ [58]))]]), .tup [.int len, .int 0]]) [[], T i' q' []]) := by
  obtain ⟨d, i1, q1, t1, d0, d1, e1⟩ := draw_ok (ns := ns) (size := 2) [[]] [] t (by decide)
  simp only [List.cons_append, List.nil_append] at e1
  obtain ⟨rl, ra, rb, la, lb, ll⟩ := C
  have z1 : w.length + 1 ≤ 16000000 := by omega
  have z2 : 1 + (w.length + 1) ≤ 16000000 := by omega
  have z3 : PA.length + 1 ≤ 16000000 := by omega
  have z4 : PA.length + 1 + PB.length ≤ 16000000 := by omega
  have z5 : RD.length + 1 ≤ 16000000 := by omega
  have z6 : RD.length ≤ 16000000 := by omega
  have z7 : len ≤ 16000000 := by omega
  have z8 : len + 1 ≤ 16000000 := by omega
  refine ⟨i1, q1, t1, ?_⟩
  have : d = 0 ∨ d = 1 := by omega
  rcases this with rfl | rfl
  · left
    have i0 : ∀ a b : D, atI [a, b] 0 = some a := fun _ _ => rfl
    unfold lbR
    simp only [lb3, lits]
    simp [z1, z2, z3, z4, z5, z6, z7, z8, rl, ra, rb, e1, i0, cutL_tail]
  · right
    have i1 : ∀ a b : D, atI [a, b] 1 = some b := fun _ _ => rfl
    unfold lbR
    simp only [lb3, lits]
    simp [z1, z2, z3, z4, z5, z6, z7, z8, rl, ra, rb, e1, i1, cutL_tail]
variable (RD : List D) (PL : D) (k : Nat) (w0 : List Nat) (P : List D) {PA PB : List D} {len : Nat} (C : Cut RD k PA PB len) (hP : P.length ≤ 10)
theorem lb3_ins (v : List Nat) (c : Nat) (e : w0 = v ++ [c]) (hc : c ≠ 58) (hl : w0.length ≤ 100) (kind : Int) (S : Sto) : lb3 (lbR ns RD PL (some (.int k)) (some (.lst (.str (tx w0) :: P))) (some (.int kind))) S = .nx (lbR ns RD PL (some (.int k)) (some (.lst (.str (tx w0) :: P))) (some (.int kind))) S := by
  subst e
  have z1 : v.length + 1 ≤ 16000000 := by simp at hl; omega
  unfold lbR
  simp only [lb3, lits]
  simp [z1, cutL_tail, hc]
include C hP
theorem lb4_0 (S : Sto) : lb4 (lbR ns RD PL (some (.int k)) (some (.lst (.str (tx w0) :: P))) (some (.int 0))) S = .ret (.tup [.lst (PA ++ .lst (.str (tx [104, 111, 112]) :: P) :: PB), .tup [.int k, .int 0]]) S := by
  obtain ⟨rl, ra, rb, la, lb, ll⟩ := C
  have z3 : PA.length + 1 ≤ 16000000 := by omega
  have z4 : PA.length + 1 + PB.length ≤ 16000000 := by omega
  have z5 : 1 + P.length ≤ 16000000 := by omega
  unfold lbR
  simp only [lb4, lits]
  simp [z3, z4, z5, ra, rb]
theorem lb5_1 (S : Sto) : lb5 (lbR ns RD PL (some (.int k)) (some (.lst (.str (tx w0) :: P))) (some (.int 1))) S = .ret (.tup [.lst (PA ++ .lst (.str (tx w0) :: (P ++ [.str (tx [48])])) :: PB), .tup [.int k, .int (P.length + 1)]]) S := by
  obtain ⟨rl, ra, rb, la, lb, ll⟩ := C
  have z3 : PA.length + 1 ≤ 16000000 := by omega
  have z4 : PA.length + 1 + PB.length ≤ 16000000 := by omega
  have z5 : P.length + 1 ≤ 16000000 := by omega
  have z6 : P.length + 1 + 1 ≤ 16000000 := by omega
  unfold lbR
  simp only [lb5, lits]
  simp [z3, z4, z5, z6, ra, rb]
theorem lb6_2 {A : List D} {y : D} (hA : P = A ++ [y]) (S : Sto) : lb6 (lbR ns RD PL (some (.int k)) (some (.lst (.str (tx w0) :: P))) (some (.int 2))) S = .ret (.tup [.lst (PA ++ .lst (.str (tx w0) :: A) :: PB), .tup [.int k, .int (A.length + 1)]]) S := by
  obtain ⟨rl, ra, rb, la, lb, ll⟩ := C
  have z3 : PA.length + 1 ≤ 16000000 := by omega
  have z4 : PA.length + 1 + PB.length ≤ 16000000 := by omega
  have hc : cutL (D.str (tx w0) :: P) none (some (-1)) = D.str (tx w0) :: A := by rw [cutL_last, hA, ← List.cons_append, List.dropLast_concat]
  have hp : P.length = A.length + 1 := by rw [hA]; simp
  have z5 : A.length + 1 + 1 ≤ 16000000 := by omega
  have z6 : (1 : Int) < (A.length : Int) + 1 + 1 := by omega
  have z7 : (A.length : Int) + 1 + 1 - 1 = A.length + 1 := by omega
  unfold lbR
  simp only [lb6, lits]
  simp [z3, z4, z5, z6, z7, ra, rb, hc, hp]
omit C hP in
theorem word_draw {d : Int} (d0 : 0 ≤ d) (d1 : d < 7) : ∃ (u u0 : List Nat) (us : List D), atI [D.str (tx [48, 48]), .str (tx [120, 57]), .str (tx [57, 57, 57, 57, 57, 57]), .str (tx [114, 52]), .str (tx [48, 32, 49]), .str (tx [54, 53, 53, 51, 54]), .str (tx [110, 111])] d = some (.str (tx u)) ∧
    (∀ S, gSplit (.str (tx u)) [.str (tx [32])] S = .ok (.lst (.str (tx u0) :: us)) S) ∧ u0.length ≤ 6 ∧ ∀ c ∈ u0, 33 ≤ c ∧ c ≠ 35 ∧ c < 128 ∧ c ≠ 58 := by
  have : d = 0 ∨ d = 1 ∨ d = 2 ∨ d = 3 ∨ d = 4 ∨ d = 5 ∨ d = 6 := by omega
  rcases this with rfl | rfl | rfl | rfl | rfl | rfl | rfl
  · exact ⟨[48, 48], [48, 48], [], rfl, fun S => gSplit_tx [48, 48] 32 S (by decide) (by simp), by decide, by decide⟩
  · exact ⟨[120, 57], [120, 57], [], rfl, fun S => gSplit_tx [120, 57] 32 S (by decide) (by simp), by decide, by decide⟩
  · exact ⟨[57, 57, 57, 57, 57, 57], [57, 57, 57, 57, 57, 57], [], rfl, fun S => gSplit_tx [57, 57, 57, 57, 57, 57] 32 S (by decide) (by simp), by decide, by decide⟩
  · exact ⟨[114, 52], [114, 52], [], rfl, fun S => gSplit_tx [114, 52] 32 S (by decide) (by simp), by decide, by decide⟩
  · exact ⟨[48, 32, 49], [48], [.str (tx [49])], rfl, fun S => gSplit_tx [48, 32, 49] 32 S (by decide) (by simp), by decide, by decide⟩
  · exact ⟨[54, 53, 53, 51, 54], [54, 53, 53, 51, 54], [], rfl, fun S => gSplit_tx [54, 53, 53, 51, 54] 32 S (by decide) (by simp), by decide, by decide⟩
  · exact ⟨[110, 111], [110, 111], [], rfl, fun S => gSplit_tx [110, 111] 32 S (by decide) (by simp), by decide, by decide⟩
theorem lb7_3 (hP0 : P ≠ []) {i q : Int} (t : StOk i q) : ∃ (A B : List D) (y : D) (u0 : List Nat) (i' q' : Int), StOk i' q' ∧ P = A ++ y :: B ∧ u0.length ≤ 6 ∧ (∀ c ∈ u0, 33 ≤ c ∧ c ≠ 35 ∧ c < 128 ∧ c ≠ 58) ∧
    lb7 (lbR ns RD PL (some (.int k)) (some (.lst (.str (tx w0) :: P))) (some (.int 3))) [[], T i q []] = .ret (.tup [.lst (PA ++ .lst (.str (tx w0) :: (A ++ .str (tx (u0 ++ [33])) :: B)) :: PB), .tup [.int k, .int (A.length + 1)]]) [[], T i' q' []] := by
  have hl : 0 < P.length := List.length_pos_iff.mpr hP0
  obtain ⟨r, i1, q1, t1, r0, r1, e1⟩ := draw_ok (ns := ns) (size := (P.length : Int)) [[]] [] t (by omega)
  obtain ⟨d, i2, q2, t2, d0, d1, e2⟩ := draw_ok (ns := ns) (size := 7) [[]] [] t1 (by decide)
  simp only [List.cons_append, List.nil_append] at e1 e2
  obtain ⟨u, u0, us, h1, h2, h3, h4⟩ := word_draw d0 d1
  obtain ⟨m, rfl⟩ : ∃ m : Nat, r = m := ⟨r.toNat, by omega⟩
  have hm : m < P.length := by omega
  obtain ⟨rl, ra, rb, la, lb, ll⟩ := C
  have eP : P = P.take m ++ P[m] :: P.drop (m + 1) := by
    rw [← List.drop_eq_getElem_cons hm]
    exact (List.take_append_drop m P).symm
  have tl : (P.take m).length = m := by rw [List.length_take]; omega
  have c1 : cutL (D.str (tx w0) :: P) none (some (1 + (m : Int))) = D.str (tx w0) :: P.take m := by
    rw [show (1 : Int) + (m : Int) = ((m + 1 : Nat) : Int) by omega, cutL_to, List.take_succ_cons]
  have c2 : cutL (D.str (tx w0) :: P) (some (1 + (m : Int) + 1)) none = P.drop (m + 1) := by
    rw [show (1 : Int) + (m : Int) + 1 = ((m + 2 : Nat) : Int) by omega, cutL_from, List.drop_succ_cons]
  have dl : (P.drop (m + 1)).length ≤ 10 := by rw [List.length_drop]; omega
  refine ⟨P.take m, P.drop (m + 1), P[m], u0, i2, q2, t2, eP, h3, h4, ?_⟩
  have z3 : PA.length + 1 ≤ 16000000 := by omega
  have z4 : PA.length + 1 + PB.length ≤ 16000000 := by omega
  have z5 : P.length + 1 ≤ 16000000 := by omega
  have z6 : (1 : Int) < (P.length : Int) + 1 := by omega
  have z7 : (P.length : Int) + 1 - 1 = P.length := by omega
  have z8 : u0.length + 1 ≤ 16000000 := by omega
  have z9 : (P.take m).length + 1 + 1 ≤ 16000000 := by omega
  have z10 : (P.take m).length + 1 + 1 + (P.drop (m + 1)).length ≤ 16000000 := by omega
  have z11 : u0.length ≤ 16000000 := by omega
  have i0 : ∀ (a : D) (l : List D), atI (a :: l) 0 = some a := fun a l => atI_0 a l
  rw [show ((P.take m).length : Int) + 1 = 1 + (m : Int) by omega]
  generalize P.take m = A at *
  generalize P.drop (m + 1) = B at *
  have hbw : lb7t (lbR ns RD PL (some (.int k)) (some (.lst (.str (tx w0) :: P))) (some (.int 3))) [[], T i q []] = .ret (.tup [.lst (PA ++ .lst (.str (tx w0) :: (A ++ .str (tx (u0 ++ [33])) :: B)) :: PB), .tup [.int k, .int (1 + (m : Int))]]) [[], T i2 q2 []] := by
    rw [lb7t_eq]
    unfold lbR
    clear eP hm tl dl r0 r1
    simp only [bw1, bw2, bw3, bw4, lits]
    simp [z3, z4, z5, z7, z8, z9, z10, z11, e1, e2, h1, h2, c1, c2, ra, rb, i0]
  have hif : lb7 (lbR ns RD PL (some (.int k)) (some (.lst (.str (tx w0) :: P))) (some (.int 3))) [[], T i q []] = lb7t (lbR ns RD PL (some (.int k)) (some (.lst (.str (tx w0) :: P))) (some (.int 3))) [[], T i q []] := by
    unfold lbR
    have : 0 < P.length := hl
    simp only [lb7, lits]
    simp [z5, z6, hl]
  rw [hif, hbw]
theorem lb8_ok (W : D) (kind : Int) (S : Sto) : lb8 (lbR ns RD PL (some (.int k)) (some W) (some (.int kind))) S = .ret (.tup [.lst (RD ++ [.lst [.str (tx [106, 109, 112]), .str (tx [110, 111, 108, 97, 98, 101, 108])]]), .tup [.int len, .int 1]]) S := by
  obtain ⟨rl, ra, rb, la, lb, ll⟩ := C
  have z5 : RD.length + 1 ≤ 16000000 := by omega
  have z6 : RD.length ≤ 16000000 := by omega
  have z7 : len ≤ 16000000 := by omega
  have z8 : len + 1 ≤ 16000000 := by omega
  unfold lbR
  simp only [lb8, lits]
  simp [z5, z6, z7, z8, rl]
end
end K26

namespace K26
open MP PySem L2
section
variable (ns : List Int)
/-- what law_bent gives -/
structure BentTo (its : List It) (bent : List Words) (a b : Nat) (nm : Option (List Nat)) : Prop where
  is : Bent its bent a b nm
  clean : ∀ ws ∈ bent, CleanR ws
  len : bent.length ≤ 17 ∧ bent ≠ []
theorem strs_inv : ∀ {A B : List D} {y : D} {ps : Words}, ps.map (fun w => D.str (tx w)) = A ++ y :: B → ∃ a w b, ps = a ++ w :: b ∧ A = a.map (fun w => D.str (tx w)) ∧ B = b.map (fun w => D.str (tx w))
  | [], B, y, [], h => by simp at h
  | [], B, y, w :: ps, h => by
    simp only [List.map_cons, List.nil_append, List.cons.injEq] at h
    exact ⟨[], w, ps, rfl, rfl, h.2.symm⟩
  | d :: A, B, y, [], h => by simp at h
  | d :: A, B, y, w :: ps, h => by
    simp only [List.map_cons, List.cons_append, List.cons.injEq] at h
    obtain ⟨a, u, b, e1, e2, e3⟩ := strs_inv h.2
    exact ⟨w :: a, u, b, by rw [e1]; rfl, by rw [List.map_cons, ← e2, h.1], e3⟩
theorem bent_ok {its : List It} {pl : Labs} (G : GoodR its pl) (hne : its ≠ []) (hl : its.length ≤ 16) (PL : D) {i q : Int} (t : StOk i q) : ∃ (bent : List Words) (a b : Nat) (nm : Option (List Nat)) (i' q' : Int), StOk i' q' ∧ BentTo its bent a b nm ∧
    m__law_bent [.ref 0 0, .rol (ns.map D.int), .lst (rowsD its), PL] [T i q []] = .ok (.tup [.lst (bent.map wsD), .tup [.int a, .int b]]) [T i' q' []] := by
  have gl := G.good
  have cleanI : ∀ x ∈ its, CleanR (itW x) := fun x hx => item_clean gl (G.ok x hx) (G.stands x hx)
  have hpos : 0 < its.length := List.length_pos_iff.mpr hne
  obtain ⟨r, i1, q1, t1, r0, r1, e1⟩ := draw_ok (ns := ns) (size := (its.length : Int)) [[]] [] t (by omega)
  obtain ⟨kind, i2, q2, t2, k0, k1, e2⟩ := draw_ok (ns := ns) (size := 5) [[]] [] t1 (by decide)
  simp only [List.cons_append, List.nil_append] at e1 e2
  obtain ⟨m, rfl⟩ : ∃ m : Nat, r = m := ⟨r.toNat, by omega⟩
  have hm : m < its.length := by omega
  have eI : its = its.take m ++ its[m] :: its.drop (m + 1) := by
    rw [← List.drop_eq_getElem_cons hm]
    exact (List.take_append_drop m its).symm
  have tl : (its.take m).length = m := by rw [List.length_take]; omega
  have dl : (its.drop (m + 1)).length ≤ 16 := by rw [List.length_drop]; omega
  have hx : its[m] ∈ its := List.getElem_mem hm
  have C : Cut (rowsD its) m (((its.take m).map itW).map wsD) (((its.drop (m + 1)).map itW).map wsD) its.length := by
    refine ⟨rowsD_len its, ?_, ?_, by simp; omega, by simp; omega, by omega⟩
    · rw [cutL_to]; unfold rowsD; rw [List.map_take, List.map_take]
    · rw [show (m : Int) + 1 = ((m + 1 : Nat) : Int) by omega, cutL_from]; unfold rowsD; rw [List.map_drop, List.map_drop]
  have l1 : (rowsD its).length ≤ 16000000 := by rw [rowsD_len]; omega
  have at1 : atI (rowsD its) (m : Int) = some (wsD (itW its[m])) := by
    rw [atI_nn (by omega)]
    unfold rowsD
    simp [hm]
  have h1 : lb1 [some (.ref 0 0), some (.rol (ns.map D.int)), some (.lst (rowsD its)), some PL, none, none, none, none, none, none] [[], T i q []] = .nx (lbR ns (rowsD its) PL (some (.int m)) none none) [[], T i1 q1 []] := by
    have rl := rowsD_len its
    unfold lbR
    generalize rowsD its = RD at *
    simp only [lb1, lits]
    simp [l1, rl, e1]
  have h2 : lb2 (lbR ns (rowsD its) PL (some (.int m)) none none) [[], T i1 q1 []] = .nx (lbR ns (rowsD its) PL (some (.int m)) (some (wsD (itW its[m]))) (some (.int kind))) [[], T i2 q2 []] := by
    unfold lbR
    generalize wsD (itW its[m]) = W at *
    generalize rowsD its = RD at *
    simp only [lb2, lits]
    simp [at1, e2]
  have run : ∀ (d : D) (S : Sto), (cSeq lb3 (cSeq lb4 (cSeq lb5 (cSeq lb6 (cSeq lb7 lb8))))) (lbR ns (rowsD its) PL (some (.int m)) (some (wsD (itW its[m]))) (some (.int kind))) [[], T i2 q2 []] = .ret d ([] :: S) → m__law_bent [.ref 0 0, .rol (ns.map D.int), .lst (rowsD its), PL] [T i q []] = .ok d S := fun d S h => by
    show runF 10 c__law_bent _ _ = _
    rw [runF_out, c__law_bent_eq]
    simp only [List.map_cons, List.map_nil, List.length_cons, List.length_nil, List.replicate, List.cons_append, List.nil_append, Nat.reduceAdd, Nat.reduceSub]
    rw [cSeq_eq, h1, RSt.andThen_nx, cSeq_eq, h2, RSt.andThen_nx, h]
    rfl
  have mapT : ∀ bad : Words, ((its.take m).map itW ++ bad :: (its.drop (m + 1)).map itW).map wsD = ((its.take m).map itW).map wsD ++ wsD bad :: ((its.drop (m + 1)).map itW).map wsD := fun bad => by rw [List.map_append, List.map_cons]
  have cleanT : ∀ bad : Words, CleanR bad → ∀ ws ∈ (its.take m).map itW ++ bad :: (its.drop (m + 1)).map itW, CleanR ws := fun bad hb ws hws => by
    rcases List.mem_append.mp hws with h | h
    · obtain ⟨x, hx', rfl⟩ := List.mem_map.mp h
      exact cleanI x (List.mem_of_mem_take hx')
    · rcases List.mem_cons.mp h with rfl | h
      · exact hb
      · obtain ⟨x, hx', rfl⟩ := List.mem_map.mp h
        exact cleanI x (List.mem_of_mem_drop hx')
  have lenT : ∀ bad : Words, ((its.take m).map itW ++ bad :: (its.drop (m + 1)).map itW).length ≤ 17 ∧ (its.take m).map itW ++ bad :: (its.drop (m + 1)).map itW ≠ [] := fun bad => ⟨by simp; omega, by simp⟩
  have cleanE : ∀ bad : Words, CleanR bad → ∀ ws ∈ its.map itW ++ [bad], CleanR ws := fun bad hb ws hws => by
    rcases List.mem_append.mp hws with h | h
    · obtain ⟨x, hx', rfl⟩ := List.mem_map.mp h
      exact cleanI x hx'
    · rw [List.mem_singleton] at h; subst h; exact hb
  have lenE : ∀ bad : Words, (its.map itW ++ [bad]).length ≤ 17 ∧ its.map itW ++ [bad] ≠ [] := fun bad => ⟨by simp; omega, by simp⟩
  have mapE : ∀ bad : Words, (its.map itW ++ [bad]).map wsD = rowsD its ++ [wsD bad] := fun bad => by unfold rowsD; rw [List.map_append]; rfl
  have fin : ∀ (bad : Words) (j : Nat) (n : Int) (o : Option (List Nat)) (i' q' : Int), its[m] = .ins n o → StOk i' q' → isLab bad = false → toldE (labsI its 0) bad j → CleanR bad →
      (cSeq lb3 (cSeq lb4 (cSeq lb5 (cSeq lb6 (cSeq lb7 lb8))))) (lbR ns (rowsD its) PL (some (.int m)) (some (wsD (itW its[m]))) (some (.int kind))) [[], T i2 q2 []] = .ret (.tup [.lst (((its.take m).map itW).map wsD ++ wsD bad :: ((its.drop (m + 1)).map itW).map wsD), .tup [.int m, .int j]]) ([] :: [T i' q' []]) →
      ∃ (bent : List Words) (a b : Nat) (nm : Option (List Nat)) (i' q' : Int), StOk i' q' ∧ BentTo its bent a b nm ∧ m__law_bent [.ref 0 0, .rol (ns.map D.int), .lst (rowsD its), PL] [T i q []] = .ok (.tup [.lst (bent.map wsD), .tup [.int a, .int b]]) [T i' q' []] := fun bad j n o i' q' hi t' hb ht hc h => by
    have B := Bent.row (its := its) (pre := its.take m) (n := n) (o := o) (post := its.drop (m + 1)) (bad := bad) (j := j) (by rw [← hi]; exact eI) hb ht hc
    rw [tl] at B
    exact ⟨_, m, j, none, i', q', t', ⟨B, cleanT bad hc, lenT bad⟩, by rw [mapT]; exact run _ _ h⟩
  cases hxm : its[m] with
  | lab w =>
    have okw : nameG w = true := by have := G.ok _ hx; rw [hxm] at this; exact this
    have hw := name_len okw
    obtain ⟨i3, q3, t3, h3⟩ := lb3_lab ns (rowsD its) PL m w kind C (by omega) t2
    have eW : wsD (itW its[m]) = .lst [.str (tx (w ++ [58]))] := by rw [hxm]; rfl
    rcases h3 with h3 | h3
    · have B := Bent.name (its := its) (pre := its.take m) (w := w) (post := its.drop (m + 1)) (by rw [← hxm]; exact eI)
      rw [tl] at B
      refine ⟨_, m, 0, some w, i3, q3, t3, ⟨B, cleanT _ (badN_clean okw), lenT _⟩, ?_⟩
      rw [mapT]
      refine run _ _ ?_
      rw [eW, cSeq_eq, h3]
      rfl
    · refine ⟨_, its.length, 0, none, i3, q3, t3, ⟨Bent.dup (w := w) (by rw [← hxm]; exact hx), cleanE _ (lab_clean okw), lenE _⟩, ?_⟩
      rw [mapE]
      refine run _ _ ?_
      rw [eW, cSeq_eq, h3]
      rfl
  | ins n o =>
    have okx : itOk (.ins n o) := by have := G.ok _ hx; rw [hxm] at this; exact this
    have stx : Stands (labsI its 0) (.ins n o) := by have := G.stands _ hx; rw [hxm] at this; exact this
    obtain ⟨w0, ps, v, eW, RG, pl3, ch⟩ := ins_parts gl okx stx
    have eWD : wsD (itW its[m]) = .lst (.str (tx w0) :: ps.map fun w => .str (tx w)) := by rw [hxm, eW]; rfl
    have hP : (ps.map fun w => D.str (tx w)).length ≤ 10 := by rw [List.length_map]; omega
    have ch0 := ch w0 List.mem_cons_self
    have hw0 : ∃ v c, w0 = v ++ [c] ∧ c ≠ 58 := by
      rcases List.eq_nil_or_concat w0 with e | ⟨v, c, e⟩
      · exact absurd e ch0.1
      · rw [List.concat_eq_append] at e
        exact ⟨v, c, e, (ch0.2.2 c (by rw [e]; simp)).2.2.2⟩
    obtain ⟨v0, c0, ev, hc0⟩ := hw0
    have s3 := lb3_ins ns (rowsD its) PL m w0 (ps.map fun w => D.str (tx w)) v0 c0 ev hc0 (by omega) kind [[], T i2 q2 []]
    rw [← eWD] at s3
    have ok58 : ∀ ws : Words, (∀ w ∈ ws, ∀ c ∈ w, c ≠ 58) → isLab ws = false := fun ws h => noLab_58 fun w hw hm => h w hw 58 hm rfl
    have kc : kind = 0 ∨ kind = 1 ∨ kind = 2 ∨ kind = 3 ∨ kind = 4 := by omega
    have tail : (cSeq lb3 (cSeq lb4 (cSeq lb5 (cSeq lb6 (cSeq lb7 lb8))))) (lbR ns (rowsD its) PL (some (.int m)) (some (wsD (itW its[m]))) (some (.int kind))) [[], T i2 q2 []] = lb8 (lbR ns (rowsD its) PL (some (.int m)) (some (wsD (itW its[m]))) (some (.int kind))) [[], T i2 q2 []] → ∃ (bent : List Words) (a b : Nat) (nm : Option (List Nat)) (i' q' : Int), StOk i' q' ∧ BentTo its bent a b nm ∧ m__law_bent [.ref 0 0, .rol (ns.map D.int), .lst (rowsD its), PL] [T i q []] = .ok (.tup [.lst (bent.map wsD), .tup [.int a, .int b]]) [T i' q' []] := fun h => by
      have h8 := lb8_ok ns (rowsD its) PL m (ps.map fun w => D.str (tx w)) C hP (wsD (itW its[m])) kind [[], T i2 q2 []]
      have jc : CleanR [[106, 109, 112], [110, 111, 108, 97, 98, 101, 108]] := ⟨by simp, by simp, by decide⟩
      refine ⟨_, its.length, 1, none, i2, q2, t2, ⟨Bent.tail, cleanE _ jc, lenE _⟩, ?_⟩
      rw [mapE]
      exact run _ _ (h.trans h8)
    rcases kc with rfl | rfl | rfl | rfl | rfl
    · have h4 := lb4_0 ns (rowsD its) PL m w0 (ps.map fun w => D.str (tx w)) C hP [[], T i2 q2 []]
      rw [← eWD] at h4
      refine fin ([104, 111, 112] :: ps) 0 n o i2 q2 hxm t2 (ok58 _ fun w hw c hc => ?_) (told_E0 rfl) (clean_of (by simp) (by simp; omega) fun w hw => ?_) ?_
      · rcases List.mem_cons.mp hw with rfl | hw
        · simp at hc; omega
        · exact ((ch w (List.mem_cons_of_mem _ hw)).2.2 c hc).2.2.2
      · rcases List.mem_cons.mp hw with rfl | hw
        · exact ⟨by simp, by simp, by decide⟩
        · exact ch w (List.mem_cons_of_mem _ hw)
      · rw [cSeq_eq, s3, RSt.andThen_nx, cSeq_eq, h4]
        rfl
    · have h4 : lb4 (lbR ns (rowsD its) PL (some (.int m)) (some (wsD (itW its[m]))) (some (.int 1))) [[], T i2 q2 []] = .nx (lbR ns (rowsD its) PL (some (.int m)) (some (wsD (itW its[m]))) (some (.int 1))) [[], T i2 q2 []] := by
        unfold lbR; simp [lb4]
      have h5 := lb5_1 ns (rowsD its) PL m w0 (ps.map fun w => D.str (tx w)) C hP [[], T i2 q2 []]
      rw [← eWD] at h5
      have cl : ∀ w ∈ w0 :: (ps ++ [[48]]), w ≠ [] ∧ w.length ≤ 12 ∧ ∀ c ∈ w, 33 ≤ c ∧ c ≠ 35 ∧ c < 128 ∧ c ≠ 58 := fun w hw => by
        rcases List.mem_cons.mp hw with rfl | hw
        · exact ch0
        · rcases List.mem_append.mp hw with hw | hw
          · exact ch w (List.mem_cons_of_mem _ hw)
          · rw [List.mem_singleton] at hw; subst hw; exact ⟨by simp, by simp, by decide⟩
      have cR : CleanR (w0 :: (ps ++ [[48]])) := clean_of (by simp) (by simp; omega) cl
      refine fin (w0 :: (ps ++ [[48]])) (ps.length + 1) n o i2 q2 hxm t2 (ok58 _ fun w hw c hc => ((cl w hw).2.2 c hc).2.2.2) (RG.more (clean_ok cR)) cR ?_
      rw [cSeq_eq, s3, RSt.andThen_nx, cSeq_eq, h4, RSt.andThen_nx, cSeq_eq, h5]
      rw [List.length_map]
      have : wsD (w0 :: (ps ++ [[48]])) = .lst (.str (tx w0) :: ((ps.map fun w => .str (tx w)) ++ [.str (tx [48])])) := by simp
      rw [this]
      rfl
    · have h4 : lb4 (lbR ns (rowsD its) PL (some (.int m)) (some (wsD (itW its[m]))) (some (.int 2))) [[], T i2 q2 []] = .nx (lbR ns (rowsD its) PL (some (.int m)) (some (wsD (itW its[m]))) (some (.int 2))) [[], T i2 q2 []] := by
        unfold lbR; simp [lb4]
      have h5 : lb5 (lbR ns (rowsD its) PL (some (.int m)) (some (wsD (itW its[m]))) (some (.int 2))) [[], T i2 q2 []] = .nx (lbR ns (rowsD its) PL (some (.int m)) (some (wsD (itW its[m]))) (some (.int 2))) [[], T i2 q2 []] := by
        unfold lbR; simp [lb5]
      rcases List.eq_nil_or_concat ps with rfl | ⟨a, y, ey⟩
      · refine tail ?_
        have h6 : lb6 (lbR ns (rowsD its) PL (some (.int m)) (some (wsD (itW its[m]))) (some (.int 2))) [[], T i2 q2 []] = .nx (lbR ns (rowsD its) PL (some (.int m)) (some (wsD (itW its[m]))) (some (.int 2))) [[], T i2 q2 []] := by
          rw [eWD]; unfold lbR; simp [lb6]
        have h7 : lb7 (lbR ns (rowsD its) PL (some (.int m)) (some (wsD (itW its[m]))) (some (.int 2))) [[], T i2 q2 []] = .nx (lbR ns (rowsD its) PL (some (.int m)) (some (wsD (itW its[m]))) (some (.int 2))) [[], T i2 q2 []] := by
          unfold lbR; simp [lb7]
        rw [cSeq_eq, s3, RSt.andThen_nx, cSeq_eq, h4, RSt.andThen_nx, cSeq_eq, h5, RSt.andThen_nx, cSeq_eq, h6, RSt.andThen_nx, cSeq_eq, h7, RSt.andThen_nx]
      · rw [List.concat_eq_append] at ey
        subst ey
        have h6 := lb6_2 ns (rowsD its) PL m w0 ((a ++ [y]).map fun w => D.str (tx w)) C hP (A := a.map fun w => .str (tx w)) (y := .str (tx y)) (by simp) [[], T i2 q2 []]
        rw [← eWD] at h6
        have cl : ∀ w ∈ w0 :: a, w ≠ [] ∧ w.length ≤ 12 ∧ ∀ c ∈ w, 33 ≤ c ∧ c ≠ 35 ∧ c < 128 ∧ c ≠ 58 := fun w hw => by
          rcases List.mem_cons.mp hw with rfl | hw
          · exact ch0
          · exact ch w (List.mem_cons_of_mem _ (List.mem_append_left _ hw))
        have cR : CleanR (w0 :: a) := clean_of (by simp) (by simp at pl3 ⊢; omega) cl
        refine fin (w0 :: a) (a.length + 1) n o i2 q2 hxm t2 (ok58 _ fun w hw c hc => ((cl w hw).2.2 c hc).2.2.2) RG.less cR ?_
        rw [cSeq_eq, s3, RSt.andThen_nx, cSeq_eq, h4, RSt.andThen_nx, cSeq_eq, h5, RSt.andThen_nx, cSeq_eq, h6]
        rw [List.length_map]
        rfl
    · have h4 : lb4 (lbR ns (rowsD its) PL (some (.int m)) (some (wsD (itW its[m]))) (some (.int 3))) [[], T i2 q2 []] = .nx (lbR ns (rowsD its) PL (some (.int m)) (some (wsD (itW its[m]))) (some (.int 3))) [[], T i2 q2 []] := by
        unfold lbR; simp [lb4]
      have h5 : lb5 (lbR ns (rowsD its) PL (some (.int m)) (some (wsD (itW its[m]))) (some (.int 3))) [[], T i2 q2 []] = .nx (lbR ns (rowsD its) PL (some (.int m)) (some (wsD (itW its[m]))) (some (.int 3))) [[], T i2 q2 []] := by
        unfold lbR; simp [lb5]
      have h6 : lb6 (lbR ns (rowsD its) PL (some (.int m)) (some (wsD (itW its[m]))) (some (.int 3))) [[], T i2 q2 []] = .nx (lbR ns (rowsD its) PL (some (.int m)) (some (wsD (itW its[m]))) (some (.int 3))) [[], T i2 q2 []] := by
        unfold lbR; simp [lb6]
      by_cases hps : ps = []
      · subst hps
        refine tail ?_
        have h7 : lb7 (lbR ns (rowsD its) PL (some (.int m)) (some (wsD (itW its[m]))) (some (.int 3))) [[], T i2 q2 []] = .nx (lbR ns (rowsD its) PL (some (.int m)) (some (wsD (itW its[m]))) (some (.int 3))) [[], T i2 q2 []] := by
          rw [eWD]; unfold lbR; simp [lb7]
        rw [cSeq_eq, s3, RSt.andThen_nx, cSeq_eq, h4, RSt.andThen_nx, cSeq_eq, h5, RSt.andThen_nx, cSeq_eq, h6, RSt.andThen_nx, cSeq_eq, h7, RSt.andThen_nx]
      · obtain ⟨A, B, y, u0, i3, q3, t3, eP, lu, cu, h7⟩ := lb7_3 ns (rowsD its) PL m w0 (ps.map fun w => D.str (tx w)) C hP (by simpa using hps) t2
        rw [← eWD] at h7
        obtain ⟨a, yw, b, rfl, rfl, rfl⟩ := strs_inv eP
        have cl : ∀ w ∈ w0 :: (a ++ (u0 ++ [33]) :: b), w ≠ [] ∧ w.length ≤ 12 ∧ ∀ c ∈ w, 33 ≤ c ∧ c ≠ 35 ∧ c < 128 ∧ c ≠ 58 := fun w hw => by
          rcases List.mem_cons.mp hw with rfl | hw
          · exact ch0
          · rcases List.mem_append.mp hw with hw | hw
            · exact ch w (List.mem_cons_of_mem _ (List.mem_append_left _ hw))
            · rcases List.mem_cons.mp hw with rfl | hw
              · refine ⟨by simp, by simp; omega, fun c hc => ?_⟩
                rcases List.mem_append.mp hc with hc | hc
                · exact cu c hc
                · rw [List.mem_singleton] at hc; subst hc; decide
              · exact ch w (List.mem_cons_of_mem _ (List.mem_append_right _ (List.mem_cons_of_mem _ hw)))
        have cR : CleanR (w0 :: (a ++ (u0 ++ [33]) :: b)) := clean_of (by simp) (by simp at pl3 ⊢; omega) cl
        refine fin (w0 :: (a ++ (u0 ++ [33]) :: b)) (a.length + 1) n o i3 q3 hxm t3 (ok58 _ fun w hw c hc => ((cl w hw).2.2 c hc).2.2.2) (RG.wrong (fun c hc => bang_none u0 gl c hc) (by simp; omega)) cR ?_
        rw [cSeq_eq, s3, RSt.andThen_nx, cSeq_eq, h4, RSt.andThen_nx, cSeq_eq, h5, RSt.andThen_nx, cSeq_eq, h6, RSt.andThen_nx, cSeq_eq, h7]
        rw [List.length_map]
        have : wsD (w0 :: (a ++ (u0 ++ [33]) :: b)) = .lst (.str (tx w0) :: ((a.map fun w => .str (tx w)) ++ .str (tx (u0 ++ [33])) :: b.map fun w => .str (tx w))) := by simp
        rw [this]
        rfl
    · have h4 : lb4 (lbR ns (rowsD its) PL (some (.int m)) (some (wsD (itW its[m]))) (some (.int 4))) [[], T i2 q2 []] = .nx (lbR ns (rowsD its) PL (some (.int m)) (some (wsD (itW its[m]))) (some (.int 4))) [[], T i2 q2 []] := by
        unfold lbR; simp [lb4]
      have h5 : lb5 (lbR ns (rowsD its) PL (some (.int m)) (some (wsD (itW its[m]))) (some (.int 4))) [[], T i2 q2 []] = .nx (lbR ns (rowsD its) PL (some (.int m)) (some (wsD (itW its[m]))) (some (.int 4))) [[], T i2 q2 []] := by
        unfold lbR; simp [lb5]
      have h6 : lb6 (lbR ns (rowsD its) PL (some (.int m)) (some (wsD (itW its[m]))) (some (.int 4))) [[], T i2 q2 []] = .nx (lbR ns (rowsD its) PL (some (.int m)) (some (wsD (itW its[m]))) (some (.int 4))) [[], T i2 q2 []] := by
        unfold lbR; simp [lb6]
      have h7 : lb7 (lbR ns (rowsD its) PL (some (.int m)) (some (wsD (itW its[m]))) (some (.int 4))) [[], T i2 q2 []] = .nx (lbR ns (rowsD its) PL (some (.int m)) (some (wsD (itW its[m]))) (some (.int 4))) [[], T i2 q2 []] := by
        unfold lbR; simp [lb7]
      refine tail ?_
      rw [cSeq_eq, s3, RSt.andThen_nx, cSeq_eq, h4, RSt.andThen_nx, cSeq_eq, h5, RSt.andThen_nx, cSeq_eq, h6, RSt.andThen_nx, cSeq_eq, h7, RSt.andThen_nx]
end
end K26

namespace K26
open MP PySem L2
/-! ### asked; what is told of a bent text -/
def askD : Except (Nat × Nat) (List Int) → D
  | .ok ns => .tup (ns.map D.int)
  | .error p => .tup [.str (tx [116, 101, 120, 116]), .tup [.int p.1, .int p.2]]
theorem asked_T {x : List Nat} {rows : Rows} {out : Except (Nat × Nat) (List Int)} (t : TextOk x rows) (h : Reads (labsL (rows.map Prod.snd) 0 []) rows [] [] out) (hl : ∀ ns, out = .ok ns → ns.length ≤ 16000000) (S : Sto) : m__law_asked [.str (tx x)] S = .ok (askD out) S := by
  have e := read_T x ([] :: S) t h hl
  have h1 : (Str.ofString "InvalidText") ∈ errs := by decide +kernel
  have h2 : subE (Str.ofString "InvalidText") (Str.ofString "InvalidText") = true := by decide +kernel
  have h3 : ∀ x y : D, List.lookup (Str.ofString "place") [(Str.ofString "name", x), (Str.ofString "place", y)] = some y := fun x y => by
    have e : ((Str.ofString "place" : Str) == Str.ofString "name") = false := by decide +kernel
    rw [List.lookup_cons, e]; simp
  simp only [m__law_asked, c__law_asked, runF_eq, lits]
  cases out with
  | ok ns =>
    have e' : m_read_code [.str (tx x)] ([] :: S) = .ok (.tup (ns.map D.int)) ([] :: S) := e
    simp [e', askD]
  | error p =>
    have e' : m_read_code [.str (tx x)] ([] :: S) = .err (invT p.1 p.2) ([] :: S) := e
    simp only [invT] at e'
    simp [e', hdL, h1, h2, h3, cXf, askD]
def firstP (nm : Option (List Nat)) (bent : List Words) (a b : Nat) : Nat × Nat := match nm with
  | none => (a, b)
  | some w => firstOf w bent a
theorem bent_reads {its : List It} {pl : Labs} (G : GoodR its pl) {bent : List Words} {a b : Nat} {nm : Option (List Nat)} (B : Bent its bent a b nm) {N : List Nat} (hN : N.length = bent.length) : Reads (labsL bent 0 []) (N.zip bent) [] [] (.error (N.getD (firstP nm bent a b).1 0, (firstP nm bent a b).2)) := by
  cases B with
  | @name pre w post e => exact G.name_bad e (by rw [hN, e]; simp)
  | @dup w hw => exact G.end_bad (.inr ⟨isLab_lab (G.ok _ hw), rfl, w, hw, rfl⟩) (by rw [hN]; simp)
  | @row pre n o post bad _ e hb ht hc => exact G.row_bad e rfl hb ht (by rw [hN, e]; simp)
  | tail =>
    refine G.end_bad (.inl ⟨noLab_len (by simp), ?_⟩) (by rw [hN]; simp)
    have gl := G.good
    have p0 : partL [110, 111, 108, 97, 98, 101, 108] 112 (labsI its 0) = none := by
      unfold partL
      rw [if_neg (by decide), if_pos rfl, look_none gl (by decide)]
      decide
    exact bad_at (lab := labsI its 0) (w0 := [106, 109, 112]) (o := 7) (m := 0) (g := [112]) (g1 := []) (g2 := []) (c := 112) (a := []) (b := []) (vs := []) rfl (fun c hc => by rw [List.mem_singleton] at hc; subst hc; exact .inr (.inr (.inr (.inl rfl)))) (by decide) rfl rfl p0 ⟨by simp, fun w hw => by simp at hw; rcases hw with rfl | rfl <;> decide⟩
/-! lists of words compared -/
theorem eqv_strs : ∀ a b : Words, PyData.eqv (D.lst (a.map fun w => D.str (tx w))).toP (D.lst (b.map fun w => D.str (tx w))).toP = decide (a = b)
  | [], [] => by simp [D.toP, D.toPs, PyData.eqv, PyData.eqvAll]
  | [], w :: b => by simp [D.toP, D.toPs, PyData.eqv, PyData.eqvAll]
  | v :: a, [] => by simp [D.toP, D.toPs, PyData.eqv, PyData.eqvAll]
  | v :: a, w :: b => by
    have ih := eqv_strs a b
    simp only [D.toP, D.toPs, List.map_cons, PyData.eqv, PyData.eqvAll] at ih ⊢
    rw [ih]
    by_cases h : v = w
    · subst h; simp
    · have : ¬ (tx v == tx w) = true := fun e => h (by simpa using e)
      simp [h]
theorem among_ws (ws : Words) : ∀ bent : List Words, D.among (wsD ws) (bent.map wsD) = decide (ws ∈ bent)
  | [] => by simp [D.among]
  | b :: bent => by
    have ih := among_ws ws bent
    unfold D.among at ih ⊢
    rw [List.map_cons, List.any_cons, ih]
    have e : PyData.eqv (wsD b).toP (wsD ws).toP = decide (b = ws) := eqv_strs b ws
    rw [e]
    by_cases h : b = ws
    · simp [h]
    · have : ¬ ws = b := fun e => h e.symm
      simp [h, this]
theorem clean_asc {ws : Words} (h : CleanR ws) : ∀ w ∈ ws, asc w = true := fun w hw => List.all_eq_true.mpr fun c hc => decide_eq_true (by have := ((h.ws w hw).2.2 c hc).2.2; omega)
theorem ws_lay {ws : Words} (h : CleanR ws) : D.lay 2 (wsD ws) = true := lays_strs 0 ws (clean_asc h)
theorem rows_lay : ∀ {rs : List Words}, (∀ ws ∈ rs, CleanR ws) → D.lays 2 (rs.map wsD) = true
  | [], _ => rfl
  | ws :: rs, h => by
    have ih := rows_lay (rs := rs) fun w hw => h w (List.mem_cons_of_mem _ hw)
    show (D.lay 2 (wsD ws) && D.lays 2 (rs.map wsD)) = true
    rw [ws_lay (h ws List.mem_cons_self), ih]
    rfl
theorem notin_rows {ws : Words} {bent : List Words} (h : CleanR ws) (hb : ∀ ws ∈ bent, CleanR ws) (S : Sto) : gNotMem (wsD ws) (.lst (bent.map wsD)) S = .ok (.bl (!decide (ws ∈ bent))) S := by
  have s1 : SeqAt.shaped (wsD ws).toP = true := shaped_lay (ws_lay h) (by decide)
  have s2 : SeqAt.shaped (D.lst (bent.map wsD)).toP = true := shaped_lay (n := 3) (rows_lay hb) (by decide)
  have am := among_ws ws bent
  have e : inB (wsD ws) (.lst (bent.map wsD)) = some (decide (ws ∈ bent)) := by
    show (if (wsD ws).flat1 && (bent.map wsD).all D.flat1 then some ((wsD ws).among (bent.map wsD)) else if SeqAt.shaped (wsD ws).toP && SeqAt.shaped (.list (D.toPs (bent.map wsD))) then some ((wsD ws).among (bent.map wsD)) else none) = _
    have s2' : SeqAt.shaped (.list (D.toPs (bent.map wsD))) = true := s2
    rw [s1, s2', am]
    split <;> rfl
  show (match inB (wsD ws) ((D.lst (bent.map wsD)).top S) with
    | some b => R.ok (D.bl (!b)) S
    | none => .bad) = _
  rw [show (D.lst (bent.map wsD)).top S = .lst (bent.map wsD) from rfl, e]
theorem ne_rows {a b : List Words} (ha : ∀ ws ∈ a, CleanR ws) (hb : ∀ ws ∈ b, CleanR ws) (S : Sto) : ∃ k : Bool, gNeX (.lst (a.map wsD)) (.lst (b.map wsD)) S = .ok (.bl k) S := by
  have s1 : SeqAt.shaped (D.lst (a.map wsD)).toP = true := shaped_lay (n := 3) (rows_lay ha) (by decide)
  have s2 : SeqAt.shaped (D.lst (b.map wsD)).toP = true := shaped_lay (n := 3) (rows_lay hb) (by decide)
  refine ⟨!PyData.eqv (D.lst (a.map wsD)).toP (D.lst (b.map wsD)).toP, ?_⟩
  show (if SeqAt.shaped (D.lst (a.map wsD)).toP && SeqAt.shaped (D.lst (b.map wsD)).toP then R.ok (D.bl (!PyData.eqv (D.lst (a.map wsD)).toP (D.lst (b.map wsD)).toP)) S else .bad) = _
  rw [s1, s2]
  rfl
theorem ne_lnil {xs : List D} {n : Nat} (h : D.lays n xs = true) (hn : n ≤ 60) (S : Sto) : gNeX (.lst xs) (.lst []) S = .ok (.bl (!decide (xs = []))) S := by
  have s := shaped_lay (n := n + 1) (d := .lst xs) h (by omega)
  show (if SeqAt.shaped (D.lst xs).toP && SeqAt.shaped (D.lst []).toP then R.ok (D.bl (!PyData.eqv (D.lst xs).toP (D.lst []).toP)) S else .bad) = _
  rw [s, shaped_lnil]
  cases xs with
  | nil => simp [D.toP, D.toPs, PyData.eqv, PyData.eqvAll]
  | cons w ws => simp [D.toP, D.toPs, PyData.eqv, PyData.eqvAll]
end K26

namespace K26
open MP PySem L2
/-! ### one turn of the law -/
noncomputable def tq1 : CS := (cAsg (tgN 10) (cCall m__law_asked (caCons (cV 5) caNil)))
noncomputable def tq2 : CS := (cAsg (tgN 11) (cTup (caCons (cK (.str "text")) (caCons (cTup (caCons (cB gItem (cV 6) (cB gItem (cV 9) (cK (.int 0)))) (caCons (cB gItem (cV 9) (cK (.int 1))) caNil))) caNil))))
noncomputable def tq3 : CS := (cAsg (tgN 12) (cLc (ciIt (cV 2)) (tgN 19) (tAnd (cTB (cB gNotMem (cV 19) (cV 8))) (cTB (cB gEqA (cSl (cB gItem (cV 19) (cK (.int 0))) (coS (cU gNeg (cK (.int 1)))) coN) (cK (.str ":"))))) (cSl (cB gItem (cV 19) (cK (.int 0))) coN (coS (cU gNeg (cK (.int 1))))) [19]))
noncomputable def tq4 : CS := (cAsg (tgN 13) (cLst caNil))
noncomputable def tq5 : CS := (cFor (ciR1 (caCons (cCall gLenA (caCons (cV 8) caNil)) caNil)) (tgN 14) q5b3t5b)
noncomputable def tq6 : CS := (cIfS (tAnd (cTB (cB gNeX (cV 13) (cLst caNil))) (cTB (cB gLtX (cB gItem (cV 13) (cK (.int 0))) (cV 9)))) (cAsg (tgN 11) (cTup (caCons (cK (.str "text")) (caCons (cTup (caCons (cB gItem (cV 6) (cB gItem (cB gItem (cV 13) (cK (.int 0))) (cK (.int 0)))) (caCons (cB gItem (cB gItem (cV 13) (cK (.int 0))) (cK (.int 1))) caNil))) caNil)))) cNext)
noncomputable def tq7 : CS := (cIfS (cTB (cB gNeX (cV 10) (cV 11))) (cRet (cK (.bl false))) cNext)
theorem q5b3t_eq : q5b3t = cSeq tq1 (cSeq tq2 (cSeq tq3 (cSeq tq4 (cSeq tq5 (cSeq tq6 (tq7)))))) := rfl
noncomputable def tp1 : CS := (cAsg (tgT [(tgN 8) , (tgN 9)]) (cCall m__law_bent (caCons (cV 1) (caCons (cV 0) (caCons (cV 2) (caCons (cV 4) caNil))))))
noncomputable def tp2 : CS := (cAsg (tgT [(tgN 5) , (tgN 6)]) (cCall m__law_text (caCons (cV 1) (caCons (cV 0) (caCons (cV 8) caNil)))))
noncomputable def tp3 : CS := (cIfS (cTB (cB gNeX (cV 8) (cV 2))) q5b3t cNext)
theorem q5b_eq : q5b = cSeq tp1 (cSeq tp2 (tp3)) := rfl
def LR (ns : List Int) (x2 x3 x4 x5 x6 x7 x8 x9 x10 x11 x12 x13 x14 x15 x16 x17 : Option D) : Ro := [some (.rol (ns.map D.int)), some (.ref 0 0), x2, x3, x4, x5, x6, x7, x8, x9, x10, x11, x12, x13, x14, x15, x16, x17, none, none]
def colonW (ws : Words) : Bool := decide ((ws.headD []).getLast? = some 58)
def lostW (its : List It) (bent : List Words) : List Words := (its.map itW).filter fun ws => !decide (ws ∈ bent) && colonW ws
theorem lc_ws (i : Nat) (q : CT) (e : C) (ρ : Ro) (S : Sto) (p : Words → Bool) (f : Words → D) : ∀ rs : List Words, (∀ ws ∈ rs, q (ρ.set i (some (wsD ws))) S = .ok (p ws) S) → (∀ ws ∈ rs, p ws = true → e (ρ.set i (some (wsD ws))) S = .ok (f ws) S) →
    lcL (tgN i) q e ρ (rs.map wsD) S = .ok ((rs.filter p).map f) S
  | [], _, _ => rfl
  | d :: ds, h1, h2 => by
    have ih := lc_ws i q e ρ S p f ds (fun x hx => h1 x (List.mem_cons_of_mem _ hx)) (fun x hx => h2 x (List.mem_cons_of_mem _ hx))
    rw [List.map_cons, lcL_cons]
    simp only [tgN_eq, h1 d List.mem_cons_self, R.calm_ok, R.bind_ok]
    cases hp : p d with
    | true => simp [h2 d List.mem_cons_self hp, ih, List.filter_cons, hp]
    | false => simp [ih, List.filter_cons, hp]
section
variable (ns : List Int) (x3 x4 x5 x6 x7 x9 x10 x11 x13 x14 x15 x16 x17 : Option D) (S : Sto)
theorem tq3_ok {its : List It} {bent : List Words} (hi : ∀ ws ∈ its.map itW, CleanR ws) (hb : ∀ ws ∈ bent, CleanR ws) (hl : its.length ≤ 100) (x12 : Option D) :
    tq3 (LR ns (some (.lst (rowsD its))) x3 x4 x5 x6 x7 (some (.lst (bent.map wsD))) x9 x10 x11 x12 x13 x14 x15 x16 x17) S = .nx (LR ns (some (.lst (rowsD its))) x3 x4 x5 x6 x7 (some (.lst (bent.map wsD))) x9 x10 x11 (some (.lst ((lostW its bent).map fun ws => .str (tx (nameOf ws))))) x13 x14 x15 x16 x17) S := by
  have parts : ∀ ws ∈ its.map itW, ∃ v c r, ws = (v ++ [c]) :: r ∧ v.length ≤ 20 := fun ws h => by
    have cl := hi ws h
    cases ws with
    | nil => exact absurd rfl cl.ne
    | cons w0 r =>
      have hw := cl.ws w0 List.mem_cons_self
      rcases List.eq_nil_or_concat w0 with e | ⟨v, c, e⟩
      · exact absurd e hw.1
      · rw [List.concat_eq_append] at e
        subst e
        exact ⟨v, c, r, rfl, by have := hw.2.1; simp at this; omega⟩
  have L := lc_ws 19 (tAnd (cTB (cB gNotMem (cV 19) (cV 8))) (cTB (cB gEqA (cSl (cB gItem (cV 19) (cK (.int 0))) (coS (cU gNeg (cK (.int 1)))) coN) (cK (.str (tx [58])))))) (cSl (cB gItem (cV 19) (cK (.int 0))) coN (coS (cU gNeg (cK (.int 1)))))
    (LR ns (some (.lst (rowsD its))) x3 x4 x5 x6 x7 (some (.lst (bent.map wsD))) x9 x10 x11 x12 x13 x14 x15 x16 x17) S (fun ws => !decide (ws ∈ bent) && colonW ws) (fun ws => .str (tx (nameOf ws))) (its.map itW)
    (fun ws h => by
      have ni := notin_rows (hi ws h) hb S
      obtain ⟨v, c, r, e, hv⟩ := parts ws h
      have a0 : ∀ S, gItem (wsD ws) (.int 0) S = .ok (.str (tx (v ++ [c]))) S := fun S => by
        rw [gItem_of S _ _ rfl, gIx_l, e, List.map_cons, atI_0]
      have z1 : v.length + 1 ≤ 16000000 := by omega
      have cw : colonW ws = decide (c = 58) := by unfold colonW; rw [e]; simp
      rw [cw]
      unfold LR
      generalize wsD ws = W at *
      generalize D.lst (bent.map wsD) = BB at *
      by_cases hm : ws ∈ bent
      · simp [ni, hm]
      · simp [ni, hm, a0, z1, cutL_tail])
    (fun ws h _ => by
      obtain ⟨v, c, r, e, hv⟩ := parts ws h
      have a0 : ∀ S, gItem (wsD ws) (.int 0) S = .ok (.str (tx (v ++ [c]))) S := fun S => by
        rw [gItem_of S _ _ rfl, gIx_l, e, List.map_cons, atI_0]
      have z1 : v.length + 1 ≤ 16000000 := by omega
      have nm : nameOf ws = v := by unfold nameOf; rw [e]; simp
      rw [nm]
      unfold LR
      generalize wsD ws = W at *
      have cl := cutL_last (v ++ [c])
      rw [List.dropLast_concat] at cl
      simp [a0, z1, cl])
  have il : (rowsD its).length ≤ 16000000 := by rw [rowsD_len]; omega
  have L' : lcL (tgN 19) (tAnd (cTB (cB gNotMem (cV 19) (cV 8))) (cTB (cB gEqA (cSl (cB gItem (cV 19) (cK (.int 0))) (coS (cU gNeg (cK (.int 1)))) coN) (cK (.str (tx [58])))))) (cSl (cB gItem (cV 19) (cK (.int 0))) coN (coS (cU gNeg (cK (.int 1)))))
    (LR ns (some (.lst (rowsD its))) x3 x4 x5 x6 x7 (some (.lst (bent.map wsD))) x9 x10 x11 x12 x13 x14 x15 x16 x17) (rowsD its) S = .ok ((lostW its bent).map fun ws => .str (tx (nameOf ws))) S := L
  generalize (lostW its bent).map (fun ws => D.str (tx (nameOf ws))) = LL at *
  generalize D.lst (bent.map wsD) = BB at *
  generalize rowsD its = RD at *
  unfold LR at L' ⊢
  simp only [tq3, lits]
  simp [il, L']
theorem colon_item {i : It} (ok : itOk i) : colonW (itW i) = true ↔ ∃ w, i = .lab w := by
  cases i with
  | lab w => exact ⟨fun _ => ⟨w, rfl⟩, fun _ => by simp [colonW, itW]⟩
  | ins n o =>
    refine ⟨fun h => ?_, fun ⟨w, e⟩ => by cases e⟩
    exfalso
    have hd : (itW (.ins n o)).headD [] = (formP n).1 := by cases o <;> rfl
    unfold colonW at h
    rw [decide_eq_true_eq, hd] at h
    have := (form_len n).2.2.2 58 (List.mem_of_getLast? h)
    omega
theorem lost_none {its : List It} {bent : List Words} (ok : ∀ i ∈ its, itOk i) (h : ∀ w, .lab w ∈ its → [w ++ [58]] ∈ bent) : lostW its bent = [] := by
  unfold lostW
  rw [List.filter_eq_nil_iff]
  intro ws hws hp
  obtain ⟨i, hi, rfl⟩ := List.mem_map.mp hws
  rw [Bool.and_eq_true] at hp
  obtain ⟨w, rfl⟩ := (colon_item (ok i hi)).mp hp.2
  have := h w hi
  have e : itW (.lab w) = [w ++ [58]] := rfl
  rw [e] at hp
  simp [this] at hp
theorem lost_name {its pre post : List It} {w : List Nat} (e : its = pre ++ .lab w :: post) (ok : ∀ i ∈ its, itOk i) (nd : (namesI its).Nodup) : lostW its (pre.map itW ++ badN w :: post.map itW) = [[w ++ [58]]] := by
  have okw : nameG w = true := ok (.lab w) (by rw [e]; simp)
  have nin : [w ++ [58]] ∉ pre.map itW ++ badN w :: post.map itW := by
    have eq : ∀ i ∈ its, itW i = [w ++ [58]] → i = .lab w := fun i hi h => by
      cases i with
      | lab v => have : v ++ [58] = w ++ [58] := by simpa [itW] using h
                 rw [List.append_cancel_right this]
      | ins n o => have := isLab_ins (ok _ hi); rw [h, isLab_lab okw] at this; cases this
    rw [e, namesI_app] at nd
    obtain ⟨n1, n2, n3⟩ := List.nodup_append.mp nd
    intro hm
    rcases List.mem_append.mp hm with hm | hm
    · obtain ⟨i, hi, h⟩ := List.mem_map.mp hm
      have := eq i (by rw [e]; exact List.mem_append_left _ hi) h
      subst this
      exact n3 w (names_in hi) w List.mem_cons_self rfl
    · rcases List.mem_cons.mp hm with hm | hm
      · unfold badN at hm
        obtain ⟨c, r, ew, c1, c2, _⟩ := name_cons okw
        subst ew
        simp at hm
        try omega
      · obtain ⟨i, hi, h⟩ := List.mem_map.mp hm
        have := eq i (by rw [e]; exact List.mem_append_right _ (List.mem_cons_of_mem _ hi)) h
        subst this
        exact (List.nodup_cons.mp n2).1 (names_in hi)
  have part : ∀ a : List It, (∀ i ∈ a, itOk i) → (∀ i ∈ a, itW i ∈ pre.map itW ++ badN w :: post.map itW) → (a.map itW).filter (fun ws => !decide (ws ∈ pre.map itW ++ badN w :: post.map itW) && colonW ws) = [] := fun a _ h => by
    rw [List.filter_eq_nil_iff]
    intro ws hws hp
    obtain ⟨i, hi, rfl⟩ := List.mem_map.mp hws
    have := h i hi
    simp [this] at hp
  unfold lostW
  rw [e, List.map_append, List.map_cons, List.filter_append, List.filter_cons]
  rw [part pre (fun i hi => ok i (by rw [e]; exact List.mem_append_left _ hi)) (fun i hi => List.mem_append_left _ (List.mem_map_of_mem hi)), part post (fun i hi => ok i (by rw [e]; exact List.mem_append_right _ (List.mem_cons_of_mem _ hi))) (fun i hi => List.mem_append_right _ (List.mem_cons_of_mem _ (List.mem_map_of_mem hi)))]
  have e2 : itW (.lab w) = [w ++ [58]] := rfl
  rw [e2, if_pos]
  · rfl
  · rw [decide_eq_false nin]
    simp [colonW]
def nmL : Option (List Nat) → Words
  | none => []
  | some w => [w]
theorem lost_bent {its : List It} {pl : Labs} (G : GoodR its pl) {bent : List Words} {a b : Nat} {nm : Option (List Nat)} (B : Bent its bent a b nm) : (lostW its bent).map nameOf = nmL nm := by
  cases B with
  | @name pre w post e => rw [lost_name e G.ok G.nd]; simp [nameOf, nmL]
  | @dup w hw =>
    rw [lost_none G.ok fun v hv => List.mem_append_left _ (List.mem_map.mpr ⟨.lab v, hv, rfl⟩)]; rfl
  | @row pre n o post bad _ e hb ht hc =>
    rw [lost_none G.ok fun v hv => ?_]; rfl
    rw [e] at hv
    rcases List.mem_append.mp hv with hv | hv
    · exact List.mem_append_left _ (List.mem_map.mpr ⟨.lab v, hv, rfl⟩)
    · rcases List.mem_cons.mp hv with hv | hv
      · cases hv
      · exact List.mem_append_right _ (List.mem_cons_of_mem _ (List.mem_map.mpr ⟨.lab v, hv, rfl⟩))
  | tail =>
    rw [lost_none G.ok fun v hv => List.mem_append_left _ (List.mem_map.mpr ⟨.lab v, hv, rfl⟩)]; rfl
end
end K26

namespace K26
open MP PySem L2
abbrev prD (p : Nat × Nat) : D := .tup [.int p.1, .int p.2]
section
variable (ns : List Int) (x2 x3 x4 x5 x6 x7 x9 x10 x11 x15 x16 x17 : Option D) (S : Sto)
theorem atI_last {a : List D} {y : D} : atI (a ++ [y]) (-1) = some y := by
  have e : ixN (a.length + 1) (-1) = some a.length := by
    unfold ixN
    simp
    try omega
  unfold atI
  simp [e]
theorem tq5_none (bent : List Words) : ∀ (ds : List D) (x14 : Option D), ∃ y14, forL (tgN 14) q5b3t5b ds (LR ns x2 x3 x4 x5 x6 x7 (some (.lst (bent.map wsD))) x9 x10 x11 (some (.lst [])) (some (.lst [])) x14 x15 x16 x17) S = .nx (LR ns x2 x3 x4 x5 x6 x7 (some (.lst (bent.map wsD))) x9 x10 x11 (some (.lst [])) (some (.lst [])) y14 x15 x16 x17) S
  | [], x14 => ⟨x14, rfl⟩
  | d :: ds, x14 => by
    obtain ⟨y, ih⟩ := tq5_none bent ds (some d)
    refine ⟨y, ?_⟩
    refine (forL_nx (ρ1 := LR ns x2 x3 x4 x5 x6 x7 (some (.lst (bent.map wsD))) x9 x10 x11 (some (.lst [])) (some (.lst [])) (some d) x15 x16 x17) rfl ?_).trans ih
    have n0 := ne_lnil (xs := []) (n := 1) rfl (by decide) S
    unfold LR
    simp only [q5b3t5b, lits]
    simp [n0]
theorem tq5_step {bent : List Words} {ws : Words} {k : Nat} (hk : bent[k]? = some ws) (cl : CleanR ws) (w : List Nat) (hw : asc w = true) (acc : List D) (ha : acc.length ≤ 100) : q5b3t5b (LR ns x2 x3 x4 x5 x6 x7 (some (.lst (bent.map wsD))) x9 x10 x11 (some (.lst [.str (tx w)])) (some (.lst acc)) (some (.int k)) x15 x16 x17) S =
    .nx (LR ns x2 x3 x4 x5 x6 x7 (some (.lst (bent.map wsD))) x9 x10 x11 (some (.lst [.str (tx w)])) (some (.lst (if 1 < ws.length ∧ ws.getLast? = some w then acc ++ [prD (k, ws.length - 1)] else acc))) (some (.int k)) x15 x16 x17) S := by
  have n0 : gNeX (.lst [.str (tx w)]) (.lst []) S = .ok (.bl true) S := ne_lnil (xs := [.str (tx w)]) (n := 1) (by show (D.lay 1 (.str (tx w)) && true) = true; rw [show D.lay 1 (.str (tx w)) = true from lay_str hw]; rfl) (by decide) S
  have a0 : ∀ S, gItem (.lst (bent.map wsD)) (.int k) S = .ok (wsD ws) S := fun S => by
    rw [gItem_of S _ _ rfl, gIx_l, atI_nn (by omega)]
    simp [hk]
  have hl := cl.len
  have g0 : ∀ S, gLenA [wsD ws] S = .ok (.int ws.length) S := fun S => by
    have : ws.length ≤ 16000000 := by omega
    rw [gLenA_of S (wsD ws) rfl, gLen_l]; simp [this]
  obtain ⟨a, y, e⟩ : ∃ a y, ws = a ++ [y] := by
    rcases List.eq_nil_or_concat ws with e | ⟨a, y, e⟩
    · exact absurd e cl.ne
    · exact ⟨a, y, by rw [e, List.concat_eq_append]⟩
  have a1 : ∀ S, gItem (wsD ws) (.int (-1)) S = .ok (.str (tx y)) S := fun S => by
    rw [gItem_of S _ _ rfl, gIx_l, e, List.map_append, List.map_cons, List.map_nil, atI_last]
  have gl : ws.getLast? = some y := by rw [e, List.getLast?_concat]
  rw [gl]
  have z1 : acc.length + 1 ≤ 16000000 := by omega
  unfold LR
  generalize D.lst (bent.map wsD) = BB at *
  generalize wsD ws = W at *
  by_cases h1 : 1 < ws.length
  · have h1' : (1 : Int) < ws.length := by omega
    have hs : ((ws.length : Int) - 1) = ((ws.length - 1 : Nat) : Int) := by omega
    by_cases h2 : y = w
    · subst h2
      simp only [q5b3t5b, lits]
      simp [n0, a0, g0, a1, h1, h1', z1, hs]
    · have h2' : ¬ w = y := fun e => h2 e.symm
      simp only [q5b3t5b, lits]
      simp [n0, a0, g0, a1, h1, h1', z1, h2, h2']
  · have h1' : ¬ (1 : Int) < ws.length := by omega
    simp only [q5b3t5b, lits]
    simp [n0, a0, g0, h1, h1']
theorem wanted_len (w : List Nat) : ∀ (r : List Words) (k : Nat), (wantedL w r k).length ≤ r.length
  | [], _ => Nat.le_refl _
  | ws :: r, k => by
    have := wanted_len w r (k + 1)
    rw [wantedL]
    split <;> simp <;> omega
theorem tq5_run {bent : List Words} (w : List Nat) (hw : asc w = true) : ∀ (todo : List Words) (k : Nat) (acc : List D) (x14 : Option D), (∀ j ws, todo[j]? = some ws → bent[k + j]? = some ws) → (∀ ws ∈ todo, CleanR ws) → acc.length + todo.length ≤ 100 → ∃ y14, forL (tgN 14) q5b3t5b (rngD k todo.length) (LR ns x2 x3 x4 x5 x6 x7 (some (.lst (bent.map wsD))) x9 x10 x11 (some (.lst [.str (tx w)])) (some (.lst acc)) x14 x15 x16 x17) S =
    .nx (LR ns x2 x3 x4 x5 x6 x7 (some (.lst (bent.map wsD))) x9 x10 x11 (some (.lst [.str (tx w)])) (some (.lst (acc ++ (wantedL w todo k).map prD))) y14 x15 x16 x17) S
  | [], k, acc, x14, _, _, _ => ⟨x14, by simp [wantedL, rngD_zero]⟩
  | ws :: r, k, acc, x14, h, cl, hl => by
    rw [List.length_cons] at hl
    have st := tq5_step ns x2 x3 x4 x5 x6 x7 x9 x10 x11 x15 x16 x17 S (by have := h 0 ws rfl; simpa using this) (cl ws List.mem_cons_self) w hw acc (by omega)
    obtain ⟨y, ih⟩ := tq5_run w hw r (k + 1) (if 1 < ws.length ∧ ws.getLast? = some w then acc ++ [prD (k, ws.length - 1)] else acc) (some (.int k)) (fun j u hj => by have := h (j + 1) u (by simpa using hj); rw [show k + 1 + j = k + (j + 1) by omega]; exact this) (fun u hu => cl u (List.mem_cons_of_mem _ hu)) (by split <;> (try simp) <;> omega)
    refine ⟨y, ?_⟩
    rw [List.length_cons, rngD_succ]
    refine (forL_nx (ρ1 := LR ns x2 x3 x4 x5 x6 x7 (some (.lst (bent.map wsD))) x9 x10 x11 (some (.lst [.str (tx w)])) (some (.lst acc)) (some (.int k)) x15 x16 x17) rfl st).trans (ih.trans ?_)
    rw [wantedL]
    split
    · simp
    · rfl
end
end K26

namespace K26
open MP PySem L2
abbrev numD (N : List Nat) : D := .lst (N.map fun (n : Nat) => .int n)
theorem num_at {N : List Nat} {a : Nat} (h : a < N.length) : atI (N.map fun (n : Nat) => D.int n) (a : Int) = some (.int (N.getD a 0)) := by
  rw [atI_nn (by omega)]
  simp [h]
theorem ask_lay (p : Nat × Nat) : D.lay 3 (askD (.error p)) = true := by
  show (D.lay 2 (.str (tx [116, 101, 120, 116])) && (D.lay 2 (.tup [.int p.1, .int p.2]) && true)) = true
  rw [show D.lay 2 (.str (tx [116, 101, 120, 116])) = true from lay_str rfl]
  rfl
theorem pr_lays : ∀ W : List (Nat × Nat), D.lays 2 (W.map prD) = true
  | [] => rfl
  | p :: W => by
    have := pr_lays W
    show (D.lay 2 (prD p) && D.lays 2 (W.map prD)) = true
    rw [this]
    rfl
section
variable (ns : List Int) (x2 x3 x4 x5 x7 x8 x12 x13 x14 x15 x16 x17 : Option D) (S : Sto)
theorem tq2_ok {N : List Nat} {a b : Nat} (ha : a < N.length) (x10 x11 : Option D) : tq2 (LR ns x2 x3 x4 x5 (some (numD N)) x7 x8 (some (.tup [.int a, .int b])) x10 x11 x12 x13 x14 x15 x16 x17) S = .nx (LR ns x2 x3 x4 x5 (some (numD N)) x7 x8 (some (.tup [.int a, .int b])) x10 (some (askD (.error (N.getD a 0, b)))) x12 x13 x14 x15 x16 x17) S := by
  have h := num_at ha
  have i0 : ∀ a b : D, atI [a, b] 0 = some a := fun _ _ => rfl
  have i1 : ∀ a b : D, atI [a, b] 1 = some b := fun _ _ => rfl
  unfold LR askD
  simp only [tq2, lits]
  simp [h, i0, i1]
theorem tq6_nil (x6 x9 x10 x11 : Option D) : tq6 (LR ns x2 x3 x4 x5 x6 x7 x8 x9 x10 x11 x12 (some (.lst [])) x14 x15 x16 x17) S = .nx (LR ns x2 x3 x4 x5 x6 x7 x8 x9 x10 x11 x12 (some (.lst [])) x14 x15 x16 x17) S := by
  have n0 := ne_lnil (xs := []) (n := 1) rfl (by decide) S
  unfold LR
  simp only [tq6, lits]
  simp [n0]
theorem tq6_cons {N : List Nat} {a : Nat} {p : Nat × Nat} {W : List (Nat × Nat)} (hp : p.1 < N.length) (x10 : Option D) (f : D) : tq6 (LR ns x2 x3 x4 x5 (some (numD N)) x7 x8 (some (.tup [.int a, .int (0 : Nat)])) x10 (some f) x12 (some (.lst ((p :: W).map prD))) x14 x15 x16 x17) S =
    .nx (LR ns x2 x3 x4 x5 (some (numD N)) x7 x8 (some (.tup [.int a, .int (0 : Nat)])) x10 (some (if p.1 < a then askD (.error (N.getD p.1 0, p.2)) else f)) x12 (some (.lst ((p :: W).map prD))) x14 x15 x16 x17) S := by
  have n0 := ne_lnil (xs := (p :: W).map prD) (n := 2) (pr_lays _) (by decide) S
  have h := num_at hp
  have i0 : ∀ a b : D, atI [a, b] 0 = some a := fun _ _ => rfl
  have i1 : ∀ a b : D, atI [a, b] 1 = some b := fun _ _ => rfl
  have w0 : ∀ S, gItem (.lst ((p :: W).map prD)) (.int 0) S = .ok (.tup [.int p.1, .int p.2]) S := fun S => by
    rw [gItem_of S _ _ rfl, gIx_l, List.map_cons, atI_0]
  have hd : decide ((p :: W).map prD = []) = false := rfl
  rw [hd] at n0
  have lt : (if (p.1 : Int) = (a : Int) then (if (p.2 : Int) = ((0 : Nat) : Int) then false else decide ((p.2 : Int) < ((0 : Nat) : Int))) else decide ((p.1 : Int) < (a : Int))) = decide (p.1 < a) := by
    by_cases h1 : p.1 = a
    · have : ¬ p.1 < a := by omega
      rw [if_pos (by omega), decide_eq_false this]
      split
      · rfl
      · exact decide_eq_false (by omega)
    · rw [if_neg (by omega)]
      exact decide_eq_decide.mpr (by omega)
  have g : ∀ S, gLtX (.tup [.int p.1, .int p.2]) (.tup [.int a, .int (0 : Nat)]) S = .ok (.bl (decide (p.1 < a))) S := fun S => by
    rw [gLtX_t2, lt]
  unfold LR askD
  generalize (D.lst ((p :: W).map prD)) = WW at *
  by_cases hlt : p.1 < a
  · rw [decide_eq_true hlt] at g
    simp only [tq6, lits]
    simp only [Int.natCast_zero] at g ⊢
    simp [n0, w0, g, h, i0, i1, hlt]
  · rw [decide_eq_false hlt] at g
    simp only [tq6, lits]
    simp only [Int.natCast_zero] at g ⊢
    simp [n0, w0, g, h, i0, i1, hlt]
theorem tq7_ok (x6 x9 : Option D) (p : Nat × Nat) : tq7 (LR ns x2 x3 x4 x5 x6 x7 x8 x9 (some (askD (.error p))) (some (askD (.error p))) x12 x13 x14 x15 x16 x17) S = .nx (LR ns x2 x3 x4 x5 x6 x7 x8 x9 (some (askD (.error p))) (some (askD (.error p))) x12 x13 x14 x15 x16 x17) S := by
  have g : gNeX (askD (.error p)) (askD (.error p)) S = .ok (.bl false) S := gNe_self (ask_lay p) (by decide) S
  unfold LR
  generalize askD (.error p) = A at *
  simp only [tq7, lits]
  simp [g]
theorem bent_lt {its : List It} {bent : List Words} {a b : Nat} {nm : Option (List Nat)} (B : Bent its bent a b nm) : a < bent.length ∧ (∀ w, nm = some w → b = 0) := by
  cases B with
  | name e => exact ⟨by simp, fun _ _ => rfl⟩
  | dup hw => exact ⟨by simp, fun _ h => by cases h⟩
  | row e hb ht hc => exact ⟨by simp, fun _ h => by cases h⟩
  | tail => exact ⟨by simp, fun _ h => by cases h⟩
theorem bent_name {its : List It} {pl : Labs} (G : GoodR its pl) {bent : List Words} {a b : Nat} {w : List Nat} (B : Bent its bent a b (some w)) : nameG w = true := by
  cases B with
  | @name pre w post e => exact G.ok (.lab w) (by rw [e]; simp)
theorem turn_ok {its : List It} {pl : Labs} (G : GoodR its pl) {bent : List Words} {a b : Nat} {nm : Option (List Nat)} (B : BentTo its bent a b nm) {x : List Nat} {N : List Nat} (t : TextOk x (N.zip bent)) (hN : N.length = bent.length) (hi : ∀ ws ∈ its.map itW, CleanR ws) (hil : its.length ≤ 16) (x3' x4' x10 x11 y12 y13 y14 : Option D) :
    ∃ z10 z11 z12 z13 z14, q5b3t (LR ns (some (.lst (rowsD its))) x3' x4' (some (.str (tx x))) (some (numD N)) x7 (some (.lst (bent.map wsD))) (some (.tup [.int a, .int b])) x10 x11 y12 y13 y14 x15 x16 x17) S = .nx (LR ns (some (.lst (rowsD its))) x3' x4' (some (.str (tx x))) (some (numD N)) x7 (some (.lst (bent.map wsD))) (some (.tup [.int a, .int b])) z10 z11 z12 z13 z14 x15 x16 x17) S := by
  have rd := bent_reads G B.is hN
  obtain ⟨ha, hb0⟩ := bent_lt B.is
  have sz : (N.zip bent).map Prod.snd = bent := by rw [List.map_snd_zip]; omega
  have as := asked_T t (out := .error (N.getD (firstP nm bent a b).1 0, (firstP nm bent a b).2)) (by rw [sz]; exact rd) (fun _ h => by cases h)
  have e1 : tq1 (LR ns (some (.lst (rowsD its))) x3' x4' (some (.str (tx x))) (some (numD N)) x7 (some (.lst (bent.map wsD))) (some (.tup [.int a, .int b])) x10 x11 y12 y13 y14 x15 x16 x17) S = .nx (LR ns (some (.lst (rowsD its))) x3' x4' (some (.str (tx x))) (some (numD N)) x7 (some (.lst (bent.map wsD))) (some (.tup [.int a, .int b])) (some (askD (.error (N.getD (firstP nm bent a b).1 0, (firstP nm bent a b).2)))) x11 y12 y13 y14 x15 x16 x17) S := by
    unfold LR
    generalize askD (.error (N.getD (firstP nm bent a b).1 0, (firstP nm bent a b).2)) = A at *
    simp only [tq1, lits]
    simp [as]
  have e2 := tq2_ok ns (some (.lst (rowsD its))) x3' x4' (some (.str (tx x))) x7 (some (.lst (bent.map wsD))) y12 y13 y14 x15 x16 x17 S (N := N) (a := a) (b := b) (by omega) (some (askD (.error (N.getD (firstP nm bent a b).1 0, (firstP nm bent a b).2)))) x11
  have e3 := tq3_ok ns x3' x4' (some (.str (tx x))) (some (numD N)) x7 (some (.tup [.int a, .int b])) (some (askD (.error (N.getD (firstP nm bent a b).1 0, (firstP nm bent a b).2)))) (some (askD (.error (N.getD a 0, b)))) y13 y14 x15 x16 x17 S hi B.clean (by omega) y12
  have lb := lost_bent G B.is
  have e4 : ∀ z12, tq4 (LR ns (some (.lst (rowsD its))) x3' x4' (some (.str (tx x))) (some (numD N)) x7 (some (.lst (bent.map wsD))) (some (.tup [.int a, .int b])) (some (askD (.error (N.getD (firstP nm bent a b).1 0, (firstP nm bent a b).2)))) (some (askD (.error (N.getD a 0, b)))) z12 y13 y14 x15 x16 x17) S = .nx (LR ns (some (.lst (rowsD its))) x3' x4' (some (.str (tx x))) (some (numD N)) x7 (some (.lst (bent.map wsD))) (some (.tup [.int a, .int b])) (some (askD (.error (N.getD (firstP nm bent a b).1 0, (firstP nm bent a b).2)))) (some (askD (.error (N.getD a 0, b)))) z12 (some (.lst [])) y14 x15 x16 x17) S := fun z12 => by
    unfold LR
    simp [tq4]
  have bl := B.len.1
  have e5f : ∀ z10 z11 z12 z13, tq5 (LR ns (some (.lst (rowsD its))) x3' x4' (some (.str (tx x))) (some (numD N)) x7 (some (.lst (bent.map wsD))) (some (.tup [.int a, .int b])) z10 z11 z12 z13 y14 x15 x16 x17) S = forL (tgN 14) q5b3t5b (rngD (0 : Nat) bent.length) (LR ns (some (.lst (rowsD its))) x3' x4' (some (.str (tx x))) (some (numD N)) x7 (some (.lst (bent.map wsD))) (some (.tup [.int a, .int b])) z10 z11 z12 z13 y14 x15 x16 x17) S := fun z10 z11 z12 z13 => by
    have g0 : ∀ S, gLenA [.lst (bent.map wsD)] S = .ok (.int bent.length) S := fun S => by
      have : bent.length ≤ 16000000 := by omega
      rw [gLenA_of S _ rfl, gLen_l]; simp [this]
    have z1 : -16000000 ≤ (bent.length : Int) ∧ (bent.length : Int) ≤ 16000000 := by omega
    have z2 : (bent.length : Int) ≤ 16000000 := by omega
    unfold LR
    generalize D.lst (bent.map wsD) = BB at *
    simp only [tq5, lits]
    simp [g0, z1, z2]
  have lb2 : (lostW its bent).map (fun ws => D.str (tx (nameOf ws))) = (nmL nm).map (fun w => .str (tx w)) := by rw [← lb, List.map_map]; rfl
  rw [lb2] at e3
  cases nm with
  | none =>
    simp only [nmL, List.map_nil] at e3
    obtain ⟨y, L5⟩ := tq5_none ns (some (.lst (rowsD its))) x3' x4' (some (.str (tx x))) (some (numD N)) x7 (some (.tup [.int a, .int b])) (some (askD (.error (N.getD (firstP none bent a b).1 0, (firstP none bent a b).2)))) (some (askD (.error (N.getD a 0, b)))) x15 x16 x17 S bent (rngD (0 : Nat) bent.length) y14
    have e6 := tq6_nil ns (some (.lst (rowsD its))) x3' x4' (some (.str (tx x))) x7 (some (.lst (bent.map wsD))) (some (.lst [])) y x15 x16 x17 S (some (numD N)) (some (.tup [.int a, .int b])) (some (askD (.error (N.getD (firstP none bent a b).1 0, (firstP none bent a b).2)))) (some (askD (.error (N.getD a 0, b))))
    have e7 := tq7_ok ns (some (.lst (rowsD its))) x3' x4' (some (.str (tx x))) x7 (some (.lst (bent.map wsD))) (some (.lst [])) (some (.lst [])) y x15 x16 x17 S (some (numD N)) (some (.tup [.int a, .int b])) (N.getD a 0, b)
    refine ⟨some (askD (.error (N.getD a 0, b))), some (askD (.error (N.getD a 0, b))), some (.lst []), some (.lst []), y, ?_⟩
    rw [q5b3t_eq]
    rw [cSeq_eq, e1, RSt.andThen_nx, cSeq_eq, e2, RSt.andThen_nx, cSeq_eq, e3, RSt.andThen_nx, cSeq_eq, e4, RSt.andThen_nx, cSeq_eq, e5f, L5, RSt.andThen_nx, cSeq_eq, e6, RSt.andThen_nx]
    exact e7
  | some w =>
    obtain rfl : b = 0 := hb0 w rfl
    have hw := bent_name G B.is
    simp only [nmL, List.map_cons, List.map_nil] at e3
    obtain ⟨y, L5⟩ := tq5_run ns (some (.lst (rowsD its))) x3' x4' (some (.str (tx x))) (some (numD N)) x7 (some (.tup [.int a, .int (0 : Nat)])) (some (askD (.error (N.getD (firstP (some w) bent a 0).1 0, (firstP (some w) bent a 0).2)))) (some (askD (.error (N.getD a 0, 0)))) x15 x16 x17 S (bent := bent) w (name_asc hw) bent 0 [] y14 (fun j ws h => by rw [Nat.zero_add]; exact h) B.clean (by simp; omega)
    rw [List.nil_append] at L5
    cases hW : wantedL w bent 0 with
    | nil =>
      rw [hW, List.map_nil] at L5
      have ef : firstP (some w) bent a 0 = (a, 0) := by unfold firstP firstOf; simp only [hW]
      have e6 := tq6_nil ns (some (.lst (rowsD its))) x3' x4' (some (.str (tx x))) x7 (some (.lst (bent.map wsD))) (some (.lst [.str (tx w)])) y x15 x16 x17 S (some (numD N)) (some (.tup [.int a, .int (0 : Nat)])) (some (askD (.error (N.getD (firstP (some w) bent a 0).1 0, (firstP (some w) bent a 0).2)))) (some (askD (.error (N.getD a 0, 0))))
      have e7 := tq7_ok ns (some (.lst (rowsD its))) x3' x4' (some (.str (tx x))) x7 (some (.lst (bent.map wsD))) (some (.lst [.str (tx w)])) (some (.lst [])) y x15 x16 x17 S (some (numD N)) (some (.tup [.int a, .int (0 : Nat)])) (N.getD a 0, 0)
      refine ⟨some (askD (.error (N.getD a 0, 0))), some (askD (.error (N.getD a 0, 0))), some (.lst [.str (tx w)]), some (.lst []), y, ?_⟩
      rw [q5b3t_eq]
      rw [cSeq_eq, e1, RSt.andThen_nx, cSeq_eq, e2, RSt.andThen_nx, cSeq_eq, e3, RSt.andThen_nx, cSeq_eq, e4, RSt.andThen_nx, cSeq_eq, e5f, L5, RSt.andThen_nx, cSeq_eq, e6, RSt.andThen_nx, ef]
      exact e7
    | cons p W =>
      rw [hW] at L5
      have hpl : p.1 < N.length := by
        have hlt : ∀ (r : List Words) (k : Nat), ∀ p ∈ wantedL w r k, p.1 < k + r.length := by
          intro r
          induction r with
          | nil => intro k p hp; simp [wantedL] at hp
          | cons ws r ih =>
            intro k p hp
            rw [wantedL] at hp
            rw [List.length_cons]
            split at hp
            · rcases List.mem_cons.mp hp with rfl | hp
              · simp only; omega
              · have := ih (k + 1) p hp; omega
            · have := ih (k + 1) p hp; omega
        have := hlt bent 0 p (by rw [hW]; exact List.mem_cons_self)
        omega
      have ef : askD (.error (N.getD (firstP (some w) bent a 0).1 0, (firstP (some w) bent a 0).2)) = if p.1 < a then askD (.error (N.getD p.1 0, p.2)) else askD (.error (N.getD a 0, 0)) := by
        unfold firstP firstOf
        simp only [hW]
        split <;> rfl
      have e6 := tq6_cons ns (some (.lst (rowsD its))) x3' x4' (some (.str (tx x))) x7 (some (.lst (bent.map wsD))) (some (.lst [.str (tx w)])) y x15 x16 x17 S (N := N) (a := a) (p := p) (W := W) hpl (some (askD (.error (N.getD (firstP (some w) bent a 0).1 0, (firstP (some w) bent a 0).2)))) (askD (.error (N.getD a 0, 0)))
      rw [← ef] at e6
      have e7 := tq7_ok ns (some (.lst (rowsD its))) x3' x4' (some (.str (tx x))) x7 (some (.lst (bent.map wsD))) (some (.lst [.str (tx w)])) (some (.lst ((p :: W).map prD))) y x15 x16 x17 S (some (numD N)) (some (.tup [.int a, .int (0 : Nat)])) (N.getD (firstP (some w) bent a 0).1 0, (firstP (some w) bent a 0).2)
      refine ⟨some (askD (.error (N.getD (firstP (some w) bent a 0).1 0, (firstP (some w) bent a 0).2))), some (askD (.error (N.getD (firstP (some w) bent a 0).1 0, (firstP (some w) bent a 0).2))), some (.lst [.str (tx w)]), some (.lst ((p :: W).map prD)), y, ?_⟩
      rw [q5b3t_eq]
      rw [cSeq_eq, e1, RSt.andThen_nx, cSeq_eq, e2, RSt.andThen_nx, cSeq_eq, e3, RSt.andThen_nx, cSeq_eq, e4, RSt.andThen_nx, cSeq_eq, e5f, L5, RSt.andThen_nx, cSeq_eq, e6, RSt.andThen_nx]
      exact e7
end
end K26

namespace K26
open MP PySem L2
/-! ### texts that the law types -/
abbrev bk : List Nat := [98, 97, 99, 107]
structure LineOk (p : List Nat × Words) : Prop where
  g : p.1.length ≤ 200 ∧ 10 ∉ p.1 ∧ rowGood p.1 p.2
  ok : okWs p.2
theorem rowsN_ok {P : Words → Prop} : ∀ (ls : List Words) (k : Nat), (∀ ws ∈ ls, P ws) → ∀ r ∈ rowsN k ls, P r.2
  | [], _, _, r, hr => by simp [rowsN] at hr
  | ws :: ls, k, h, r, hr => by
    rw [rowsN] at hr
    split at hr
    · exact rowsN_ok ls (k + 1) (fun w hw => h w (List.mem_cons_of_mem _ hw)) r hr
    · rcases List.mem_cons.mp hr with rfl | hr
      · exact h ws List.mem_cons_self
      · exact rowsN_ok ls (k + 1) (fun w hw => h w (List.mem_cons_of_mem _ hw)) r hr
theorem rowsN_len : ∀ (ls : List Words) (k : Nat), (rowsN k ls).length ≤ ls.length
  | [], _ => Nat.le_refl _
  | ws :: ls, k => by
    have := rowsN_len ls (k + 1)
    rw [rowsN]
    split <;> simp <;> omega
theorem textOk_of {ps : List (List Nat × Words)} (hne : ps ≠ []) (h : ∀ p ∈ ps, LineOk p) (hl : ps.length ≤ 1000) : TextOk (TL.joinL [10] (ps.map Prod.fst)) (rowsN 0 (ps.map Prod.snd)) := by
  have jl := join_len [10] (ps.map Prod.fst)
  have sm : ∀ ls : List (List Nat × Words), (∀ p ∈ ls, p.1.length ≤ 200) → ((ls.map Prod.fst).map List.length).sum ≤ ls.length * 200 := by
    intro ls
    induction ls with
    | nil => intro _; simp
    | cons p ls ih =>
      intro hh
      have := ih fun r hr => hh r (List.mem_cons_of_mem _ hr)
      have := hh p List.mem_cons_self
      simp only [List.map_cons, List.sum_cons, List.length_cons] at *
      omega
  have s1 := sm ps fun p hp => (h p hp).g.1
  rw [List.length_map, List.length_singleton] at jl
  refine ⟨by omega, ⟨ps, ?_, fun p hp => (h p hp).g.2.2, by omega, rfl⟩, ?_, ?_⟩
  · exact TL.spl_join (by simpa using hne) fun p hp => by
      obtain ⟨r, hr, rfl⟩ := List.mem_map.mp hp
      exact (h r hr).g.2.1
  · exact rowsN_ok (P := okWs) _ 0 fun ws hws => by
      obtain ⟨p, hp, rfl⟩ := List.mem_map.mp hws
      exact (h p hp).ok
  · have := rowsN_len (ps.map Prod.snd) 0
    rw [List.length_map] at this
    omega
theorem line1 {t : List Nat} {ws : Words} (h1 : t.length ≤ 200) (h2 : 10 ∉ t) (h3 : TL.spl [35] 0 [] t = [t]) (h4 : wf t = ws) (h5 : (TL.spl [32] 0 [] t).length ≤ 16000000) (ok : okWs ws) : LineOk (t, ws) := ⟨⟨h1, h2, by simp only; omega, t, [], h3, by omega, h5, h4⟩, ok⟩
theorem bk_line : LineOk (bk, [bk]) := line1 (by decide) (by decide) (by decide) (by decide) (by decide) ⟨by decide, by decide⟩
theorem nil_line : LineOk ([], []) := line1 (by decide) (by decide) (by decide) (by decide) (by decide) ⟨by decide, by decide⟩
theorem a_line : LineOk ([97, 58], [[97, 58]]) := line1 (by decide) (by decide) (by decide) (by decide) (by decide) ⟨by decide, by decide⟩
theorem far_line : LineOk ([102, 97, 114, 58], [[102, 97, 114, 58]]) := line1 (by decide) (by decide) (by decide) (by decide) (by decide) ⟨by decide, by decide⟩
theorem jfar_line : LineOk ([106, 109, 112, 32, 102, 97, 114], [[106, 109, 112], [102, 97, 114]]) := line1 (by decide) (by decide) (by decide) (by decide) (by decide) ⟨by decide, by decide⟩
theorem ja_line : LineOk ([106, 109, 112, 32, 97], [[106, 109, 112], [97]]) := line1 (by decide) (by decide) (by decide) (by decide) (by decide) ⟨by decide, by decide⟩
theorem no_line : LineOk ([35, 32, 110, 111], []) := ⟨⟨by decide, by decide, by decide, [], [[32, 110, 111]], by decide, by decide, by decide, by decide⟩, by decide, by decide⟩
theorem rep_join : ∀ (n : Nat) (ls : List (List Nat)), ls ≠ [] → (List.replicate n (bk ++ [10])).flatten ++ TL.joinL [10] ls = TL.joinL [10] (List.replicate n bk ++ ls)
  | 0, ls, _ => by simp
  | n + 1, ls, h => by
    have ih := rep_join n ls h
    have hL : List.replicate n bk ++ ls ≠ [] := by simp [h]
    obtain ⟨a, b, e⟩ := List.exists_cons_of_ne_nil hL
    have e' : TL.joinL [10] (bk :: (List.replicate n bk ++ ls)) = bk ++ ([10] ++ TL.joinL [10] (List.replicate n bk ++ ls)) := by rw [e]; rfl
    have l : (List.replicate (n + 1) (bk ++ [10])).flatten ++ TL.joinL [10] ls = bk ++ ([10] ++ ((List.replicate n (bk ++ [10])).flatten ++ TL.joinL [10] ls)) := by
      rw [List.replicate_succ, List.flatten_cons, List.append_assoc, List.append_assoc]
    have r : List.replicate (n + 1) bk ++ ls = bk :: (List.replicate n bk ++ ls) := by rw [List.replicate_succ]; rfl
    rw [l, r, e', ih]
theorem told_bk (lab : Labs) (hL : GoodLab lab) : told lab [bk] 57344 := (rowG_none hL (n := 57344) (by decide) (by decide)).told
theorem labs_bk (rest : List Words) : ∀ (n : Nat) (p : Int) (lab : Labs), labsL (List.replicate n [bk] ++ rest) p lab = labsL rest (p + n) lab
  | 0, p, lab => by simp
  | n + 1, p, lab => by
    rw [List.replicate_succ, List.cons_append, labsL, if_neg (by decide), labs_bk rest n]
    congr 1
    omega
theorem rowsN_bk (rest : List Words) : ∀ (n k : Nat), rowsN k (List.replicate n [bk] ++ rest) = (List.range' k n).map (fun i => (i, [bk])) ++ rowsN (k + n) rest
  | 0, k => by simp
  | n + 1, k => by
    rw [List.replicate_succ, List.cons_append, rowsN, if_neg (by decide), rowsN_bk rest n (k + 1), List.range'_succ, List.map_cons, List.cons_append]
    congr 3
    omega
theorem reads_bk {lab : Labs} (ht : told lab [bk] 57344) {met : Words} {out : Except (Nat × Nat) (List Int)} {rest : Rows} : ∀ (n k : Nat) (acc : List Int), acc.length + n ≤ 256 → Reads lab rest met (acc ++ List.replicate n 57344) out → Reads lab ((List.range' k n).map (fun i => (i, [bk])) ++ rest) met acc out
  | 0, k, acc, _, h => by simpa using h
  | n + 1, k, acc, hl, h => by
    rw [List.range'_succ, List.map_cons, List.cons_append]
    refine .row (by decide) (by omega) ht (reads_bk ht n (k + 1) (acc ++ [57344]) (by simp; omega) ?_)
    rw [List.append_assoc, List.singleton_append, ← List.replicate_succ]
    exact h
theorem mapsB (n : Nat) (rest : List (List Nat × Words)) : (List.replicate n (bk, [bk]) ++ rest).map Prod.fst = List.replicate n bk ++ rest.map Prod.fst ∧ (List.replicate n (bk, [bk]) ++ rest).map Prod.snd = List.replicate n [bk] ++ rest.map Prod.snd := by
  simp
theorem goodNil : GoodLab [] := fun p hp => by simp at hp
theorem snd_rows (n k : Nat) (r : Rows) : ((List.range' k n).map (fun i => (i, [bk])) ++ r).map Prod.snd = List.replicate n [bk] ++ r.map Prod.snd := by
  rw [List.map_append, List.map_map]
  congr 1
  rw [List.eq_replicate_iff]
  exact ⟨by simp, fun b hb => by obtain ⟨i, _, rfl⟩ := List.mem_map.mp hb; rfl⟩
/-- n rows of back, and more -/
theorem many (n : Nat) (hn : n ≤ 256) (rest : List (List Nat × Words)) (hr : ∀ p ∈ rest, LineOk p) (hne : rest ≠ []) (hl : rest.length ≤ 10) (out : Except (Nat × Nat) (List Int)) (h : ∀ lab, lab = labsL ((rowsN n (rest.map Prod.snd)).map Prod.snd) n [] → told lab [bk] 57344 ∧ Reads lab (rowsN n (rest.map Prod.snd)) [] (List.replicate n 57344) out) (ho : ∀ ns, out = .ok ns → ns.length ≤ 16000000) (S : Sto) :
    m__law_asked [.str (tx ((List.replicate n (bk ++ [10])).flatten ++ TL.joinL [10] (rest.map Prod.fst)))] S = .ok (askD out) S := by
  have T := textOk_of (ps := List.replicate n (bk, [bk]) ++ rest) (by simp [hne]) (fun p hp => by
    rcases List.mem_append.mp hp with hp | hp
    · rw [List.eq_of_mem_replicate hp]; exact bk_line
    · exact hr p hp) (by simp; omega)
  rw [(mapsB n rest).1, (mapsB n rest).2, ← rep_join n _ (by simpa using hne), rowsN_bk, Nat.zero_add] at T
  have la : labsL (((List.range' 0 n).map (fun i => (i, [bk])) ++ rowsN n (rest.map Prod.snd)).map Prod.snd) 0 [] = labsL ((rowsN n (rest.map Prod.snd)).map Prod.snd) n [] := by
    rw [snd_rows, labs_bk, Int.zero_add]
  obtain ⟨h1, h2⟩ := h _ rfl
  exact asked_T T (by rw [la]; exact reads_bk h1 n 0 [] (by simpa using hn) (by simpa using h2)) ho S
end K26

namespace K26
open MP PySem L2
abbrev bkn : List Nat := [98, 97, 99, 107, 10]
theorem full_ok (S : Sto) : m__law_asked [.str (tx (List.replicate 256 bkn).flatten)] S = .ok (askD (.ok (List.replicate 256 57344))) S := by
  have := many 256 (by decide) [([], [])] (fun p hp => by rw [List.mem_singleton] at hp; subst hp; exact nil_line) (by simp) (by decide) (.ok (List.replicate 256 57344)) (fun lab e => by
    subst e
    exact ⟨told_bk _ goodNil, .nil⟩) (fun ns h => by cases h; rw [List.length_replicate]; decide) S
  simpa [TL.joinL] using this
theorem full1_ok (S : Sto) : m__law_asked [.str (tx ((List.replicate 256 bkn).flatten ++ bk))] S = .ok (askD (.error (256, 0))) S := by
  have := many 256 (by decide) [(bk, [bk])] (fun p hp => by rw [List.mem_singleton] at hp; subst hp; exact bk_line) (by simp) (by decide) (.error (256, 0)) (fun lab e => by
    subst e
    exact ⟨told_bk _ goodNil, .full (by decide) (List.length_replicate ..)⟩) (fun ns h => by cases h) S
  exact this
theorem full2_ok (S : Sto) : m__law_asked [.str (tx ((List.replicate 256 bkn).flatten ++ [97, 58]))] S = .ok (askD (.error (256, 0))) S := by
  have := many 256 (by decide) [([97, 58], [[97, 58]])] (fun p hp => by rw [List.mem_singleton] at hp; subst hp; exact a_line) (by simp) (by decide) (.error (256, 0)) (fun lab e => by
    have el : lab = [([97], 256)] := e
    subst el
    exact ⟨(RowG.told (ps := []) ⟨⟨by decide, by decide⟩, 14, [], 0, [], rfl, by simp, by decide, rfl, rfl⟩), .far (v := 256) (by decide) (by simp) (by decide) (by decide)⟩) (fun ns h => by cases h) S
  exact this
theorem full3_ok (S : Sto) : m__law_asked [.str (tx ((List.replicate 255 bkn).flatten ++ [97, 58]))] S = .ok (askD (.ok (List.replicate 255 57344))) S := by
  have := many 255 (by decide) [([97, 58], [[97, 58]])] (fun p hp => by rw [List.mem_singleton] at hp; subst hp; exact a_line) (by simp) (by decide) (.ok (List.replicate 255 57344)) (fun lab e => by
    have el : lab = [([97], 255)] := e
    subst el
    exact ⟨(RowG.told (ps := []) ⟨⟨by decide, by decide⟩, 14, [], 0, [], rfl, by simp, by decide, rfl, rfl⟩), .lab (v := 255) (by decide) (by simp) (by decide) (by decide) .nil⟩) (fun ns h => by cases h; rw [List.length_replicate]; decide) S
  exact this
theorem few (ps : List (List Nat × Words)) (hne : ps ≠ []) (h : ∀ p ∈ ps, LineOk p) (hl : ps.length ≤ 10) (out : Except (Nat × Nat) (List Int)) (hr : Reads (labsL ((rowsN 0 (ps.map Prod.snd)).map Prod.snd) 0 []) (rowsN 0 (ps.map Prod.snd)) [] [] out) (ho : ∀ ns, out = .ok ns → ns.length ≤ 16000000) (S : Sto) : m__law_asked [.str (tx (TL.joinL [10] (ps.map Prod.fst)))] S = .ok (askD out) S :=
  asked_T (textOk_of hne h (by omega)) hr ho S
theorem e1_ok (S : Sto) : m__law_asked [.str (tx [])] S = .ok (askD (.ok [])) S := few [([], [])] (by simp) (fun p hp => by rw [List.mem_singleton] at hp; subst hp; exact nil_line) (by decide) (.ok []) .nil (fun ns h => by cases h; decide) S
theorem e2_ok (S : Sto) : m__law_asked [.str (tx [35, 32, 110, 111, 10, 10])] S = .ok (askD (.ok [])) S := few [([35, 32, 110, 111], []), ([], []), ([], [])] (by simp) (fun p hp => by
  simp only [List.mem_cons, List.not_mem_nil, or_false] at hp
  rcases hp with rfl | rfl | rfl
  · exact no_line
  · exact nil_line
  · exact nil_line) (by decide) (.ok []) .nil (fun ns h => by cases h; decide) S
theorem e3_ok (S : Sto) : m__law_asked [.str (tx [97, 58, 10, 97, 58])] S = .ok (askD (.error (1, 0))) S := few [([97, 58], [[97, 58]]), ([97, 58], [[97, 58]])] (by simp) (fun p hp => by
  simp only [List.mem_cons, List.not_mem_nil, or_false] at hp
  rcases hp with rfl | rfl <;> exact a_line) (by decide) (.error (1, 0)) (.lab (v := 0) (by decide) (by simp) (by decide) (by decide) (.again (by decide) (by simp))) (fun ns h => by cases h) S
theorem e4_ok (S : Sto) : m__law_asked [.str (tx [106, 109, 112, 32, 97, 10, 97, 58])] S = .ok (askD (.ok [28673])) S := few [([106, 109, 112, 32, 97], [[106, 109, 112], [97]]), ([97, 58], [[97, 58]])] (by simp) (fun p hp => by
  simp only [List.mem_cons, List.not_mem_nil, or_false] at hp
  rcases hp with rfl | rfl
  · exact ja_line
  · exact a_line) (by decide) (.ok [28673]) (.row (v := 28673) (by decide) (by decide) (RowG.told (ps := [[97]]) ⟨⟨by decide, by decide⟩, 7, [112], 0, [1], rfl, fun c hc => by rw [List.mem_singleton] at hc; subst hc; exact .inr (.inr (.inr (.inl rfl))), by decide, by decide, by decide⟩) (.lab (v := 1) (by decide) (by simp) (by decide) (by decide) .nil)) (fun ns h => by cases h; decide) S
theorem far_ok (S : Sto) : m__law_asked [.str (tx ([106, 109, 112, 32, 102, 97, 114, 10] ++ (List.replicate 256 bkn).flatten ++ [102, 97, 114, 58, 10]))] S = .ok (askD (.error (0, 1))) S := by
  have T := textOk_of (ps := ([106, 109, 112, 32, 102, 97, 114], [[106, 109, 112], [102, 97, 114]]) :: (List.replicate 256 (bk, [bk]) ++ [([102, 97, 114, 58], [[102, 97, 114, 58]]), ([], [])])) (by simp) (fun p hp => by
    rcases List.mem_cons.mp hp with rfl | hp
    · exact jfar_line
    · rcases List.mem_append.mp hp with hp | hp
      · rw [List.eq_of_mem_replicate hp]; exact bk_line
      · simp only [List.mem_cons, List.not_mem_nil, or_false] at hp
        rcases hp with rfl | rfl
        · exact far_line
        · exact nil_line) (by simp)
  rw [List.map_cons, List.map_cons, (mapsB 256 _).1, (mapsB 256 _).2] at T
  have ej : TL.joinL [10] ([106, 109, 112, 32, 102, 97, 114] :: (List.replicate 256 bk ++ [[102, 97, 114, 58], []])) = [106, 109, 112, 32, 102, 97, 114, 10] ++ (List.replicate 256 bkn).flatten ++ [102, 97, 114, 58, 10] := by
    have := rep_join 256 [[102, 97, 114, 58], []] (by simp)
    have e0 : TL.joinL [10] ([106, 109, 112, 32, 102, 97, 114] :: (List.replicate 256 bk ++ [[102, 97, 114, 58], []])) = [106, 109, 112, 32, 102, 97, 114] ++ ([10] ++ TL.joinL [10] (List.replicate 256 bk ++ [[102, 97, 114, 58], []])) := by
      obtain ⟨a, b, e⟩ := List.exists_cons_of_ne_nil (show List.replicate 256 bk ++ [[102, 97, 114, 58], []] ≠ [] by simp)
      rw [e]; rfl
    rw [e0, ← this]
    have e1 : TL.joinL [10] [[102, 97, 114, 58], []] = [102, 97, 114, 58, 10] := rfl
    rw [e1]
    have e2 : (bk ++ [10]) = bkn := rfl
    rw [e2]
    generalize (List.replicate 256 bkn).flatten = f
    simp
  have er : rowsN 0 ([[106, 109, 112], [102, 97, 114]] :: (List.replicate 256 [bk] ++ [[[102, 97, 114, 58]], []])) = (0, [[106, 109, 112], [102, 97, 114]]) :: rowsN 1 (List.replicate 256 [bk] ++ [[[102, 97, 114, 58]], []]) := rfl
  simp only [List.map_cons, List.map_nil] at T
  rw [ej, er] at T
  refine asked_T T ?_ (fun ns h => by cases h) S
  have la : labsL (((0, [[106, 109, 112], [102, 97, 114]]) :: rowsN 1 (List.replicate 256 [bk] ++ [[[102, 97, 114, 58]], []])).map Prod.snd) 0 [] = [([102, 97, 114], 257)] := by
    rw [List.map_cons, labsL, if_neg (by decide), rowsN_bk, snd_rows, labs_bk]
    rfl
  rw [la]
  exact .bad (by decide) (by decide) (bad_at (w0 := [106, 109, 112]) (o := 7) (m := 0) (g := [112]) (g1 := []) (g2 := []) (c := 112) (a := []) (b := []) (vs := []) rfl (fun c hc => by rw [List.mem_singleton] at hc; subst hc; exact .inr (.inr (.inr (.inl rfl)))) (by decide) rfl rfl (by decide) ⟨by decide, by decide⟩)
end K26

namespace K26
open MP PySem L2
theorem eqDk_labs (pl : Labs) : ∀ labs : Labs, (∀ p ∈ labs, lookL pl p.1 = some p.2) → eqDk (labK pl) (labV pl) (labK labs) (labV labs) = true
  | [], _ => rfl
  | p :: labs, h => by
    have ih := eqDk_labs pl labs fun q hq => h q (List.mem_cons_of_mem _ hq)
    have g := getA_lab p.1 pl
    rw [h p List.mem_cons_self] at g
    show ((match getA (labK pl) (labV pl) (.inr (tx p.1)) with | some e => sameF (.int p.2) e | none => false) && eqDk (labK pl) (labV pl) (labK labs) (labV labs)) = true
    rw [ih, g]
    simp [sameF]
def fD : D → D
  | .str y => .bl (labW y.cps.toList)
  | _ => .bl false
theorem label_any (d : D) (hk : kind d = true) (h : ∀ y, d = .str y → y.cps.toList.length ≤ 100) (S : Sto) : m_is_label [d] S = .ok (fD d) S := by
  cases d <;> first | (simp [kind] at hk; done) | exact label_odd _ hk (fun _ => by intro e; cases e) S | skip
  rename_i y
  have := label_ok y.cps.toList (by have := h y rfl; omega) S
  exact this
section
variable (ns : List Int)
theorem q5_run {its : List It} {pl : Labs} (G : GoodR its pl) (hne : its ≠ []) (hl : its.length ≤ 16) (hi : ∀ ws ∈ its.map itW, CleanR ws) (x3 : Option D) : ∀ (ks : List D) {i q : Int}, StOk i q → ∀ (x5 x6 x7 x8 x9 x10 x11 x12 x13 x14 : Option D), ∃ (i' q' : Int) (y5 y6 y7 y8 y9 y10 y11 y12 y13 y14 : Option D), StOk i' q' ∧
    forL (tgN 7) q5b ks (LR ns (some (.lst (rowsD its))) x3 (some (labD pl)) x5 x6 x7 x8 x9 x10 x11 x12 x13 x14 none none none) [T i q []] = .nx (LR ns (some (.lst (rowsD its))) x3 (some (labD pl)) y5 y6 y7 y8 y9 y10 y11 y12 y13 y14 none none none) [T i' q' []]
  | [], i, q, t, x5, x6, x7, x8, x9, x10, x11, x12, x13, x14 => ⟨i, q, x5, x6, x7, x8, x9, x10, x11, x12, x13, x14, t, rfl⟩
  | k :: ks, i, q, t, x5, x6, x7, x8, x9, x10, x11, x12, x13, x14 => by
    obtain ⟨bent, a, b, nm, i1, q1, t1, B, e1⟩ := bent_ok ns G hne hl (labD pl) t
    obtain ⟨x, N, i2, q2, t2, T2, hN, e2⟩ := law_text_ok ns B.clean B.len.2 (by have := B.len.1; omega) t1
    obtain ⟨z10, z11, z12, z13, z14, e3⟩ := turn_ok ns (some k) none none none [T i2 q2 []] G B T2 hN hi hl x3 (some (labD pl)) x10 x11 x12 x13 x14
    obtain ⟨kb, e4⟩ := ne_rows B.clean hi [T i2 q2 []]
    have h1 : tp1 (LR ns (some (.lst (rowsD its))) x3 (some (labD pl)) x5 x6 (some k) x8 x9 x10 x11 x12 x13 x14 none none none) [T i q []] = .nx (LR ns (some (.lst (rowsD its))) x3 (some (labD pl)) x5 x6 (some k) (some (.lst (bent.map wsD))) (some (.tup [.int a, .int b])) x10 x11 x12 x13 x14 none none none) [T i1 q1 []] := by
      unfold LR
      generalize labD pl = PL at *
      generalize rowsD its = RD at *
      generalize D.lst (bent.map wsD) = BB at *
      simp only [tp1, lits]
      simp [e1]
    have h2 : tp2 (LR ns (some (.lst (rowsD its))) x3 (some (labD pl)) x5 x6 (some k) (some (.lst (bent.map wsD))) (some (.tup [.int a, .int b])) x10 x11 x12 x13 x14 none none none) [T i1 q1 []] = .nx (LR ns (some (.lst (rowsD its))) x3 (some (labD pl)) (some (.str (tx x))) (some (numD N)) (some k) (some (.lst (bent.map wsD))) (some (.tup [.int a, .int b])) x10 x11 x12 x13 x14 none none none) [T i2 q2 []] := by
      have e2' : m__law_text [.ref 0 0, .rol (ns.map D.int), .lst (bent.map wsD)] [T i1 q1 []] = .ok (.tup [.str (tx x), numD N]) [T i2 q2 []] := e2
      unfold LR
      generalize labD pl = PL at *
      generalize rowsD its = RD at *
      generalize D.lst (bent.map wsD) = BB at *
      generalize numD N = NN at *
      simp only [tp2, lits]
      simp [e2']
    have e4' : gNeX (.lst (bent.map wsD)) (.lst (rowsD its)) [T i2 q2 []] = .ok (.bl kb) [T i2 q2 []] := e4
    have h3 : tp3 (LR ns (some (.lst (rowsD its))) x3 (some (labD pl)) (some (.str (tx x))) (some (numD N)) (some k) (some (.lst (bent.map wsD))) (some (.tup [.int a, .int b])) x10 x11 x12 x13 x14 none none none) [T i2 q2 []] =
        if kb = true then q5b3t (LR ns (some (.lst (rowsD its))) x3 (some (labD pl)) (some (.str (tx x))) (some (numD N)) (some k) (some (.lst (bent.map wsD))) (some (.tup [.int a, .int b])) x10 x11 x12 x13 x14 none none none) [T i2 q2 []]
        else .nx (LR ns (some (.lst (rowsD its))) x3 (some (labD pl)) (some (.str (tx x))) (some (numD N)) (some k) (some (.lst (bent.map wsD))) (some (.tup [.int a, .int b])) x10 x11 x12 x13 x14 none none none) [T i2 q2 []] := by
      unfold LR
      generalize labD pl = PL at *
      generalize D.lst (rowsD its) = RD at *
      generalize D.lst (bent.map wsD) = BB at *
      generalize numD N = NN at *
      simp only [tp3, lits]
      simp [e4']
    have step : ∃ (y10 y11 y12 y13 y14 : Option D), q5b (LR ns (some (.lst (rowsD its))) x3 (some (labD pl)) x5 x6 (some k) x8 x9 x10 x11 x12 x13 x14 none none none) [T i q []] = .nx (LR ns (some (.lst (rowsD its))) x3 (some (labD pl)) (some (.str (tx x))) (some (numD N)) (some k) (some (.lst (bent.map wsD))) (some (.tup [.int a, .int b])) y10 y11 y12 y13 y14 none none none) [T i2 q2 []] := by
      rw [q5b_eq]
      rw [cSeq_eq, h1, RSt.andThen_nx, cSeq_eq, h2, RSt.andThen_nx, h3]
      cases kb with
      | true => exact ⟨z10, z11, z12, z13, z14, by rw [if_pos rfl]; exact e3⟩
      | false => exact ⟨x10, x11, x12, x13, x14, by rw [if_neg (by decide)]⟩
    obtain ⟨y10, y11, y12, y13, y14, e5⟩ := step
    obtain ⟨i3, q3, w5, w6, w7, w8, w9, w10, w11, w12, w13, w14, t3, e6⟩ := q5_run G hne hl hi x3 ks t2 (some (.str (tx x))) (some (numD N)) (some k) (some (.lst (bent.map wsD))) (some (.tup [.int a, .int b])) y10 y11 y12 y13 y14
    exact ⟨i3, q3, w5, w6, w7, w8, w9, w10, w11, w12, w13, w14, t3, (forL_nx (ρ1 := LR ns (some (.lst (rowsD its))) x3 (some (labD pl)) x5 x6 (some k) x8 x9 x10 x11 x12 x13 x14 none none none) rfl e5).trans e6⟩
theorem full_len (n : Nat) : ((List.replicate n bkn).flatten).length = n * 5 := by rw [flat_len]; rfl
theorem q10_ok (x2 x3 x4 x5 x6 x7 x8 x9 x10 x11 x12 x13 x14 x15 x16 : Option D) (S : Sto) : q10 (LR ns x2 x3 x4 x5 x6 x7 x8 x9 x10 x11 x12 x13 x14 x15 x16 (some (.str (tx (List.replicate 256 bkn).flatten)))) S = .nx (LR ns x2 x3 x4 x5 x6 x7 x8 x9 x10 x11 x12 x13 x14 x15 x16 (some (.str (tx (List.replicate 256 bkn).flatten)))) S := by
  have f0 := full_ok S
  have f1 := full1_ok S
  have f2 := full2_ok S
  have f3 := full3_ok S
  have l1 := full_len 256
  have l2 := full_len 255
  have g1 : gNeX (askD (.error (256, 0))) (askD (.error (256, 0))) S = .ok (.bl false) S := gNe_self (ask_lay _) (by decide) S
  have g2 : gNeX (askD (.ok (List.replicate 255 57344))) (askD (.ok (List.replicate 255 57344))) S = .ok (.bl false) S := gNe_self (n := 2) (d := askD (.ok (List.replicate 255 57344))) (show D.lays 1 ((List.replicate 255 57344).map D.int) = true by decide +kernel) (by decide) S
  have gl : gLenA [askD (.ok (List.replicate 256 57344))] S = .ok (.int 256) S := rfl
  have m1 : ∀ S, gMulX (.str (tx bkn)) (.int 255) S = .ok (.str (tx (List.replicate 255 bkn).flatten)) S := fun S => by
    rw [gMulX_s, if_pos (by decide)]
    rfl
  have m2 : ∀ S, gMulX (.tup [.int 57344]) (.int 255) S = .ok (askD (.ok (List.replicate 255 57344))) S := fun S => by
    rw [gMulX_t, gMul_t, if_pos (by decide)]
    rfl
  have z1 : (List.replicate 256 bkn).flatten.length + 4 ≤ 16000000 := by omega
  have z2 : (List.replicate 256 bkn).flatten.length + 2 ≤ 16000000 := by omega
  have z3 : (List.replicate 255 bkn).flatten.length + 2 ≤ 16000000 := by omega
  have z4 : (List.replicate 256 bkn).flatten.length ≤ 16000000 := by omega
  have z5 : (List.replicate 255 bkn).flatten.length ≤ 16000000 := by omega
  have ea : ∀ a b : Nat, D.tup [.str (tx [116, 101, 120, 116]), .tup [.int a, .int b]] = askD (.error (a, b)) := fun _ _ => rfl
  have e256 : D.tup [.str (tx [116, 101, 120, 116]), .tup [.int 256, .int 0]] = askD (.error (256, 0)) := rfl
  unfold LR
  clear l1 l2
  generalize (List.replicate 256 bkn).flatten = f at *
  generalize (List.replicate 255 bkn).flatten = f' at *
  generalize askD (.ok (List.replicate 255 57344)) = A3 at *
  generalize askD (.ok (List.replicate 256 57344)) = A4 at *
  simp only [q10, lits]
  generalize askD (.error (256, 0)) = A1 at *
  simp [f0, f1, f2, f3, gl, m1, m2, z1, z2, z3, z4, z5, e256, g1, g2, -gMulX_s, -gMulX_t]
theorem q11_ok (x2 x3 x4 x5 x6 x7 x8 x9 x10 x11 x12 x13 x14 x15 x16 x17 : Option D) (S : Sto) : q11 (LR ns x2 x3 x4 x5 x6 x7 x8 x9 x10 x11 x12 x13 x14 x15 x16 x17) S = .nx (LR ns x2 x3 x4 x5 x6 x7 x8 x9 x10 x11 x12 x13 x14 x15 x16 x17) S := by
  have f0 := far_ok S
  have l1 := full_len 256
  have g1 : gNeX (askD (.error (0, 1))) (askD (.error (0, 1))) S = .ok (.bl false) S := gNe_self (ask_lay _) (by decide) S
  have m1 : ∀ S, gMulX (.str (tx bkn)) (.int 256) S = .ok (.str (tx (List.replicate 256 bkn).flatten)) S := fun S => by
    rw [gMulX_s, if_pos (by decide)]
    rfl
  have z4 : (List.replicate 256 bkn).flatten.length ≤ 16000000 := by omega
  have z1 : 8 + (List.replicate 256 bkn).flatten.length ≤ 16000000 := by omega
  have z2 : 8 + (List.replicate 256 bkn).flatten.length + 5 ≤ 16000000 := by omega
  have z3 : (List.replicate 256 bkn).flatten.length + 1 + 1 + 1 + 1 + 1 + 1 + 1 + 1 ≤ 16000000 := by omega
  have z5 : (List.replicate 256 bkn).flatten.length + 1 + 1 + 1 + 1 + 1 + 1 + 1 + 1 + 5 ≤ 16000000 := by omega
  have z6 : (List.replicate 256 bkn).flatten.length + 5 + 1 + 1 + 1 + 1 + 1 + 1 + 1 + 1 ≤ 16000000 := by omega
  have e256 : D.tup [.str (tx [116, 101, 120, 116]), .tup [.int 0, .int 1]] = askD (.error (0, 1)) := rfl
  unfold LR
  clear l1
  generalize (List.replicate 256 bkn).flatten = f at *
  simp only [q11, lits]
  generalize askD (.error (0, 1)) = A1 at *
  simp only [List.cons_append, List.nil_append] at f0
  simp [f0, m1, z1, z2, z3, z4, z5, z6, e256, g1, -gMulX_s]
theorem q12_ok (x2 x3 x4 x5 x6 x7 x8 x9 x10 x11 x12 x13 x14 x15 x16 x17 : Option D) (S : Sto) : q12 (LR ns x2 x3 x4 x5 x6 x7 x8 x9 x10 x11 x12 x13 x14 x15 x16 x17) S = .ret (.bl true) S := by
  have f1 := e1_ok S
  have f2 := e2_ok S
  have f3 := e3_ok S
  have f4 := e4_ok S
  have g1 : gEqA (askD (.ok [])) (.tup []) S = .ok (.bl true) S := gEqA_self (n := 1) (d := .tup []) rfl (by decide) S
  have g3 : gEqA (askD (.error (1, 0))) (askD (.error (1, 0))) S = .ok (.bl true) S := gEqA_self (ask_lay _) (by decide) S
  have g4 : gEqA (askD (.ok [28673])) (.tup [.int 28673]) S = .ok (.bl true) S := gEqA_self (n := 2) (d := .tup [.int 28673]) rfl (by decide) S
  have b1 : Builtin.bitOr 28672 1 = 28673 := by decide
  have e3 : D.tup [.str (tx [116, 101, 120, 116]), .tup [.int 1, .int 0]] = askD (.error (1, 0)) := rfl
  unfold LR
  simp only [q12, lits]
  generalize askD (.ok []) = A1 at *
  generalize askD (.error (1, 0)) = A3 at *
  generalize askD (.ok [28673]) = A4 at *
  simp [f1, f2, f3, f4, g1, e3, g3, b1, g4]
theorem law_holds (ns : List Int) (h : ns.length ≤ 63) : m_law [.rol (ns.map D.int)] [] = .ok (.bl true) [] := by
  have e1 : q1 (LR ns none none none none none none none none none none none none none none none none) [[]] = .nx (LR ns none none none none none none none none none none none none none none none none) [[]] → True := fun _ => trivial
  have h1 : q1 [some (.rol (ns.map D.int)), none, none, none, none, none, none, none, none, none, none, none, none, none, none, none, none, none, none, none] [[]] = .nx (LR ns none none none none none none none none none none none none none none none none) [T 0 0 []] := by
    simp only [q1, lits]
    unfold LR
    simp [newAt, T, D.les, D.le]
  obtain ⟨its, pl, i2, s2, t2, G, hne, hl, hpn, e2⟩ := law_rows_ok ns (i := 0) (q := 0) ⟨by decide, by decide⟩
  have gl := G.good
  have hi : ∀ ws ∈ its.map itW, CleanR ws := fun ws hws => by
    obtain ⟨x, hx, rfl⟩ := List.mem_map.mp hws
    exact item_clean gl (G.ok x hx) (G.stands x hx)
  have h2 : q2 (LR ns none none none none none none none none none none none none none none none none) [T 0 0 []] = .nx (LR ns (some (.lst (rowsD its))) (some (.tup ((codeI pl its).map D.int))) (some (labD pl)) none none none none none none none none none none none none none) [T i2 s2 []] := by
    unfold LR
    generalize labD pl = PL at *
    generalize (codeI pl its).map D.int = CD at *
    generalize rowsD its = RD at *
    simp only [q2, lits]
    simp [e2]
  obtain ⟨x, N, i3, s3, t3, T3, hN, e3⟩ := law_text_ok ns hi (by simpa using hne) (by rw [List.length_map]; omega) t2
  rw [List.length_map] at hN
  have e3' : m__law_text [.ref 0 0, .rol (ns.map D.int), .lst (rowsD its)] [T i2 s2 []] = .ok (.tup [.str (tx x), numD N]) [T i3 s3 []] := e3
  have h3 : q3 (LR ns (some (.lst (rowsD its))) (some (.tup ((codeI pl its).map D.int))) (some (labD pl)) none none none none none none none none none none none none none) [T i2 s2 []] = .nx (LR ns (some (.lst (rowsD its))) (some (.tup ((codeI pl its).map D.int))) (some (labD pl)) (some (.str (tx x))) (some (numD N)) none none none none none none none none none none none) [T i3 s3 []] := by
    unfold LR
    generalize labD pl = PL at *
    generalize (codeI pl its).map D.int = CD at *
    generalize rowsD its = RD at *
    generalize numD N = NN at *
    simp only [q3, lits]
    simp [e3']
  have sz : (N.zip (its.map itW)).map Prod.snd = its.map itW := by rw [List.map_snd_zip]; rw [hN, List.length_map]; exact Nat.le_refl _
  have cl : ∀ a : List It, (codeI pl a).length ≤ a.length := by
    intro a
    induction a with
    | nil => exact Nat.le_refl _
    | cons x a ih =>
      cases x with
      | lab w => rw [codeI, List.length_cons]; omega
      | ins m u =>
        cases u with
        | none => rw [codeI, List.length_cons, List.length_cons]; omega
        | some u => rw [codeI, List.length_cons, List.length_cons]; omega
  have as := asked_T T3 (out := .ok (codeI pl its)) (by rw [sz]; exact G.reads hN) (fun m hm => by cases hm; have := cl its; omega)
  have lb := labelsT_ok T3
  rw [sz, G.labs] at lb
  have n1 : ∀ S, gNeX (askD (.ok (codeI pl its))) (.tup ((codeI pl its).map D.int)) S = .ok (.bl false) S := fun S => by
    have lay : ∀ l : List Int, D.lays 1 (l.map D.int) = true := fun l => by
      induction l with
      | nil => rfl
      | cons a l ih => show (true && _) = true; rw [ih]; rfl
    exact gNe_self (n := 2) (d := .tup ((codeI pl its).map D.int)) (lay _) (by decide) S
  have n2 : ∀ S, gNeX (labD (labsI its 0)) (labD pl) S = .ok (.bl false) S := fun S => by
    rw [gNeX_bb, if_pos]
    exact ⟨by rw [List.length_map, List.length_map, G.plen], eqDk_labs pl _ G.pls⟩
  have h4 : q4 (LR ns (some (.lst (rowsD its))) (some (.tup ((codeI pl its).map D.int))) (some (labD pl)) (some (.str (tx x))) (some (numD N)) none none none none none none none none none none none) [T i3 s3 []] = .nx (LR ns (some (.lst (rowsD its))) (some (.tup ((codeI pl its).map D.int))) (some (labD pl)) (some (.str (tx x))) (some (numD N)) none none none none none none none none none none none) [T i3 s3 []] := by
    unfold LR
    generalize labD pl = PL at *
    generalize labD (labsI its 0) = PL2 at *
    generalize askD (.ok (codeI pl its)) = AA at *
    generalize D.tup ((codeI pl its).map D.int) = CD at *
    generalize D.lst (rowsD its) = RD at *
    generalize numD N = NN at *
    simp only [q4, lits]
    simp [as, lb, n1, n2]
  obtain ⟨i5, s5, y5, y6, y7, y8, y9, y10, y11, y12, y13, y14, t5, L5⟩ := q5_run ns G hne hl hi (some (.tup ((codeI pl its).map D.int))) (rngD 0 6) t3 (some (.str (tx x))) (some (numD N)) none none none none none none none none
  have h5 : q5 (LR ns (some (.lst (rowsD its))) (some (.tup ((codeI pl its).map D.int))) (some (labD pl)) (some (.str (tx x))) (some (numD N)) none none none none none none none none none none none) [T i3 s3 []] = .nx (LR ns (some (.lst (rowsD its))) (some (.tup ((codeI pl its).map D.int))) (some (labD pl)) y5 y6 y7 y8 y9 y10 y11 y12 y13 y14 none none none) [T i5 s5 []] := by
    refine Eq.trans ?_ L5
    unfold LR
    simp only [q5, lits]
    simp
  have good : List D := [.str (tx [97]), .str (tx [97, 49]), .str (tx [97, 98, 99, 100, 101, 102, 103, 104, 105, 106, 107, 108]), .str (tx [122, 57, 122])]
  have h6 : q6 (LR ns (some (.lst (rowsD its))) (some (.tup ((codeI pl its).map D.int))) (some (labD pl)) y5 y6 y7 y8 y9 y10 y11 y12 y13 y14 none none none) [T i5 s5 []] = .nx (LR ns (some (.lst (rowsD its))) (some (.tup ((codeI pl its).map D.int))) (some (labD pl)) y5 y6 y7 y8 y9 y10 y11 y12 y13 y14 (some (.lst [.str (tx [97]), .str (tx [97, 49]), .str (tx [97, 98, 99, 100, 101, 102, 103, 104, 105, 106, 107, 108]), .str (tx [122, 57, 122])])) none none) [T i5 s5 []] := by
    unfold LR
    simp only [q6, lits]
    simp
  have h7 : q7 (LR ns (some (.lst (rowsD its))) (some (.tup ((codeI pl its).map D.int))) (some (labD pl)) y5 y6 y7 y8 y9 y10 y11 y12 y13 y14 (some (.lst [.str (tx [97]), .str (tx [97, 49]), .str (tx [97, 98, 99, 100, 101, 102, 103, 104, 105, 106, 107, 108]), .str (tx [122, 57, 122])])) none none) [T i5 s5 []] = .nx (LR ns (some (.lst (rowsD its))) (some (.tup ((codeI pl its).map D.int))) (some (labD pl)) y5 y6 y7 y8 y9 y10 y11 y12 y13 y14 (some (.lst [.str (tx [97]), .str (tx [97, 49]), .str (tx [97, 98, 99, 100, 101, 102, 103, 104, 105, 106, 107, 108]), .str (tx [122, 57, 122])])) (some (.lst [.non, .str (tx []), .str (tx [49, 97]), .str (tx [65]), .str (tx [97, 32, 98]), .str (tx [97, 95]), .str (tx [97, 98, 99, 100, 101, 102, 103, 104, 105, 106, 107, 108, 109]), .int 5, .bl true, .str (tx [97, 58])])) none) [T i5 s5 []] := by
    unfold LR
    simp only [q7, lits]
    simp
  have h8 : q8 (LR ns (some (.lst (rowsD its))) (some (.tup ((codeI pl its).map D.int))) (some (labD pl)) y5 y6 y7 y8 y9 y10 y11 y12 y13 y14 (some (.lst [.str (tx [97]), .str (tx [97, 49]), .str (tx [97, 98, 99, 100, 101, 102, 103, 104, 105, 106, 107, 108]), .str (tx [122, 57, 122])])) (some (.lst [.non, .str (tx []), .str (tx [49, 97]), .str (tx [65]), .str (tx [97, 32, 98]), .str (tx [97, 95]), .str (tx [97, 98, 99, 100, 101, 102, 103, 104, 105, 106, 107, 108, 109]), .int 5, .bl true, .str (tx [97, 58])])) none) [T i5 s5 []] = .nx (LR ns (some (.lst (rowsD its))) (some (.tup ((codeI pl its).map D.int))) (some (labD pl)) y5 y6 y7 y8 y9 y10 y11 y12 y13 y14 (some (.lst [.str (tx [97]), .str (tx [97, 49]), .str (tx [97, 98, 99, 100, 101, 102, 103, 104, 105, 106, 107, 108]), .str (tx [122, 57, 122])])) (some (.lst [.non, .str (tx []), .str (tx [49, 97]), .str (tx [65]), .str (tx [97, 32, 98]), .str (tx [97, 95]), .str (tx [97, 98, 99, 100, 101, 102, 103, 104, 105, 106, 107, 108, 109]), .int 5, .bl true, .str (tx [97, 58])])) none) [T i5 s5 []] := by
    have L := lc_map 18 (cCall m_is_label (caCons (cV 18) caNil)) (LR ns (some (.lst (rowsD its))) (some (.tup ((codeI pl its).map D.int))) (some (labD pl)) y5 y6 y7 y8 y9 y10 y11 y12 y13 y14 (some (.lst [.str (tx [97]), .str (tx [97, 49]), .str (tx [97, 98, 99, 100, 101, 102, 103, 104, 105, 106, 107, 108]), .str (tx [122, 57, 122])])) (some (.lst [.non, .str (tx []), .str (tx [49, 97]), .str (tx [65]), .str (tx [97, 32, 98]), .str (tx [97, 95]), .str (tx [97, 98, 99, 100, 101, 102, 103, 104, 105, 106, 107, 108, 109]), .int 5, .bl true, .str (tx [97, 58])])) none) [T i5 s5 []] fD [.str (tx [97]), .str (tx [97, 49]), .str (tx [97, 98, 99, 100, 101, 102, 103, 104, 105, 106, 107, 108]), .str (tx [122, 57, 122]), .non, .str (tx []), .str (tx [49, 97]), .str (tx [65]), .str (tx [97, 32, 98]), .str (tx [97, 95]), .str (tx [97, 98, 99, 100, 101, 102, 103, 104, 105, 106, 107, 108, 109]), .int 5, .bl true, .str (tx [97, 58])] (fun d hd => by
      have := label_any d (by simp only [List.mem_cons, List.not_mem_nil, or_false] at hd; rcases hd with rfl | rfl | rfl | rfl | rfl | rfl | rfl | rfl | rfl | rfl | rfl | rfl | rfl | rfl <;> rfl) (fun y hy => by simp only [List.mem_cons, List.not_mem_nil, or_false] at hd; rcases hd with rfl | rfl | rfl | rfl | rfl | rfl | rfl | rfl | rfl | rfl | rfl | rfl | rfl | rfl <;> cases hy <;> decide) [T i5 s5 []]
      unfold LR
      simp [this])
    have em : List.map fD [.str (tx [97]), .str (tx [97, 49]), .str (tx [97, 98, 99, 100, 101, 102, 103, 104, 105, 106, 107, 108]), .str (tx [122, 57, 122]), .non, .str (tx []), .str (tx [49, 97]), .str (tx [65]), .str (tx [97, 32, 98]), .str (tx [97, 95]), .str (tx [97, 98, 99, 100, 101, 102, 103, 104, 105, 106, 107, 108, 109]), .int 5, .bl true, .str (tx [97, 58])] = [.bl true, .bl true, .bl true, .bl true, .bl false, .bl false, .bl false, .bl false, .bl false, .bl false, .bl false, .bl false, .bl false, .bl false] := rfl
    rw [em] at L
    have g : gNeX (.lst [.bl true, .bl true, .bl true, .bl true, .bl false, .bl false, .bl false, .bl false, .bl false, .bl false, .bl false, .bl false, .bl false, .bl false]) (.lst [.bl true, .bl true, .bl true, .bl true, .bl false, .bl false, .bl false, .bl false, .bl false, .bl false, .bl false, .bl false, .bl false, .bl false]) [T i5 s5 []] = .ok (.bl false) [T i5 s5 []] := gNe_self (n := 2) (d := .lst [.bl true, .bl true, .bl true, .bl true, .bl false, .bl false, .bl false, .bl false, .bl false, .bl false, .bl false, .bl false, .bl false, .bl false]) rfl (by decide) _
    unfold LR at L ⊢
    simp only [q8, lits]
    simp [L, g, -gNeX_l]
  have h9 : q9 (LR ns (some (.lst (rowsD its))) (some (.tup ((codeI pl its).map D.int))) (some (labD pl)) y5 y6 y7 y8 y9 y10 y11 y12 y13 y14 (some (.lst [.str (tx [97]), .str (tx [97, 49]), .str (tx [97, 98, 99, 100, 101, 102, 103, 104, 105, 106, 107, 108]), .str (tx [122, 57, 122])])) (some (.lst [.non, .str (tx []), .str (tx [49, 97]), .str (tx [65]), .str (tx [97, 32, 98]), .str (tx [97, 95]), .str (tx [97, 98, 99, 100, 101, 102, 103, 104, 105, 106, 107, 108, 109]), .int 5, .bl true, .str (tx [97, 58])])) none) [T i5 s5 []] = .nx (LR ns (some (.lst (rowsD its))) (some (.tup ((codeI pl its).map D.int))) (some (labD pl)) y5 y6 y7 y8 y9 y10 y11 y12 y13 y14 (some (.lst [.str (tx [97]), .str (tx [97, 49]), .str (tx [97, 98, 99, 100, 101, 102, 103, 104, 105, 106, 107, 108]), .str (tx [122, 57, 122])])) (some (.lst [.non, .str (tx []), .str (tx [49, 97]), .str (tx [65]), .str (tx [97, 32, 98]), .str (tx [97, 95]), .str (tx [97, 98, 99, 100, 101, 102, 103, 104, 105, 106, 107, 108, 109]), .int 5, .bl true, .str (tx [97, 58])])) (some (.str (tx (List.replicate 256 bkn).flatten)))) [T i5 s5 []] := by
    have m1 : ∀ S, gMulX (.str (tx bkn)) (.int 256) S = .ok (.str (tx (List.replicate 256 bkn).flatten)) S := fun S => by
      rw [gMulX_s, if_pos (by decide)]
      rfl
    unfold LR
    generalize (List.replicate 256 bkn).flatten = f at *
    simp only [q9, lits]
    simp [m1, -gMulX_s]
  have run : c_law [some (.rol (ns.map D.int)), none, none, none, none, none, none, none, none, none, none, none, none, none, none, none, none, none, none, none] [[]] = .ret (.bl true) [T i5 s5 []] := by
    rw [c_law_eq]
    rw [cSeq_eq, h1, RSt.andThen_nx, cSeq_eq, h2, RSt.andThen_nx, cSeq_eq, h3, RSt.andThen_nx, cSeq_eq, h4, RSt.andThen_nx, cSeq_eq, h5, RSt.andThen_nx, cSeq_eq, h6, RSt.andThen_nx, cSeq_eq, h7, RSt.andThen_nx, cSeq_eq, h8, RSt.andThen_nx, cSeq_eq, h9, RSt.andThen_nx, cSeq_eq, q10_ok, RSt.andThen_nx, cSeq_eq, q11_ok, RSt.andThen_nx, q12_ok]
  show runF 20 c_law _ _ = _
  rw [runF_eq]
  simp only [List.map_cons, List.map_nil, List.length_cons, List.length_nil, List.replicate, List.cons_append, List.nil_append, Nat.reduceAdd, Nat.reduceSub, run]
  exact leave_bl _ _ _
end
end K26

namespace K26
open MP PySem PySem.Spec PyProof.Rows L2
def topS (i : Nat) : Stmt := PySem.Challenge.pw_downtogates_k26_whole_texts_of_code.main.body.getD i (.Pass ⟨0, 0, 0, 0⟩)
abbrev s_is_count : Stmt := topS 5
abbrev N_is_count : List Str := ["value"]
theorem sc_is_count : FnScope N_is_count ["value"] (defScope s_is_count) := ⟨rfl, rfl, rfl, by decide +kernel, rfl, by decide +kernel, by decide +kernel⟩
abbrev s_instruction : Stmt := topS 13
abbrev N_instruction : List Str := ["op", "rd", "rs", "imm", "parts", "limits", "k"]
theorem sc_instruction : FnScope N_instruction ["op", "rd", "rs", "imm"] (defScope s_instruction) := ⟨rfl, rfl, rfl, by decide +kernel, rfl, by decide +kernel, by decide +kernel⟩
abbrev s_is_instruction : Stmt := topS 14
abbrev N_is_instruction : List Str := ["value"]
theorem sc_is_instruction : FnScope N_is_instruction ["value"] (defScope s_is_instruction) := ⟨rfl, rfl, rfl, by decide +kernel, rfl, by decide +kernel, by decide +kernel⟩
abbrev s_check_instruction : Stmt := topS 15
abbrev N_check_instruction : List Str := ["number"]
theorem sc_check_instruction : FnScope N_check_instruction ["number"] (defScope s_check_instruction) := ⟨rfl, rfl, rfl, by decide +kernel, rfl, by decide +kernel, by decide +kernel⟩
abbrev s_parts_of : Stmt := topS 16
abbrev N_parts_of : List Str := ["number"]
theorem sc_parts_of : FnScope N_parts_of ["number"] (defScope s_parts_of) := ⟨rfl, rfl, rfl, by decide +kernel, rfl, by decide +kernel, by decide +kernel⟩
abbrev s_form_of : Stmt := topS 17
abbrev N_form_of : List Str := ["number", "op", "rd", "rs", "imm", "found", "word", "signs", "spare"]
theorem sc_form_of : FnScope N_form_of ["number"] (defScope s_form_of) := ⟨rfl, rfl, rfl, by decide +kernel, rfl, by decide +kernel, by decide +kernel⟩
abbrev s_instruction_text : Stmt := topS 18
abbrev N_instruction_text : List Str := ["number", "op", "rd", "rs", "imm", "word", "signs", "told", "sign"]
theorem sc_instruction_text : FnScope N_instruction_text ["number"] (defScope s_instruction_text) := ⟨rfl, rfl, rfl, by decide +kernel, rfl, by decide +kernel, by decide +kernel⟩
abbrev s_is_label : Stmt := topS 19
abbrev N_is_label : List Str := ["value", "sign"]
theorem sc_is_label : FnScope N_is_label ["value"] (defScope s_is_label) := ⟨rfl, rfl, rfl, by decide +kernel, rfl, by decide +kernel, by decide +kernel⟩
abbrev s_code_rows : Stmt := topS 20
abbrev N_code_rows : List Str := ["text", "rows", "found", "k", "words", "word"]
theorem sc_code_rows : FnScope N_code_rows ["text"] (defScope s_code_rows) := ⟨rfl, rfl, rfl, by decide +kernel, rfl, by decide +kernel, by decide +kernel⟩
abbrev s_is_label_row : Stmt := topS 21
abbrev N_is_label_row : List Str := ["words"]
theorem sc_is_label_row : FnScope N_is_label_row ["words"] (defScope s_is_label_row) := ⟨rfl, rfl, rfl, by decide +kernel, rfl, by decide +kernel, by decide +kernel⟩
abbrev s_number_below : Stmt := topS 22
abbrev N_number_below : List Str := ["word", "limit", "sign"]
theorem sc_number_below : FnScope N_number_below ["word", "limit"] (defScope s_number_below) := ⟨rfl, rfl, rfl, by decide +kernel, rfl, by decide +kernel, by decide +kernel⟩
abbrev s_part_told : Stmt := topS 23
abbrev N_part_told : List Str := ["word", "sign", "labels"]
theorem sc_part_told : FnScope N_part_told ["word", "sign", "labels"] (defScope s_part_told) := ⟨rfl, rfl, rfl, by decide +kernel, rfl, by decide +kernel, by decide +kernel⟩
abbrev s_row_told : Stmt := topS 24
abbrev N_row_told : List Str := ["row", "words", "labels", "op", "signs", "imm", "told", "k", "part"]
theorem sc_row_told : FnScope N_row_told ["row", "words", "labels"] (defScope s_row_told) := ⟨rfl, rfl, rfl, by decide +kernel, rfl, by decide +kernel, by decide +kernel⟩
abbrev s_code_labels : Stmt := topS 25
abbrev N_code_labels : List Str := ["text", "found", "place", "row", "words"]
theorem sc_code_labels : FnScope N_code_labels ["text"] (defScope s_code_labels) := ⟨rfl, rfl, rfl, by decide +kernel, rfl, by decide +kernel, by decide +kernel⟩
abbrev s_read_code : Stmt := topS 26
abbrev N_read_code : List Str := ["text", "labels", "met", "found", "row", "words"]
theorem sc_read_code : FnScope N_read_code ["text"] (defScope s_read_code) := ⟨rfl, rfl, rfl, by decide +kernel, rfl, by decide +kernel, by decide +kernel⟩
abbrev s__law_draw : Stmt := topS 28
abbrev N__law_draw : List Str := ["state", "script", "size", "cell", "mixed", "digit"]
theorem sc__law_draw : FnScope N__law_draw ["state", "script", "size"] (defScope s__law_draw) := ⟨rfl, rfl, rfl, by decide +kernel, rfl, by decide +kernel, by decide +kernel⟩
abbrev s__law_instr : Stmt := topS 29
abbrev N__law_instr : List Str := ["state", "script", "most", "op", "imm"]
theorem sc__law_instr : FnScope N__law_instr ["state", "script", "most"] (defScope s__law_instr) := ⟨rfl, rfl, rfl, by decide +kernel, rfl, by decide +kernel, by decide +kernel⟩
abbrev s__law_asked : Stmt := topS 32
abbrev N__law_asked : List Str := ["text", "error"]
theorem sc__law_asked : FnScope N__law_asked ["text"] (defScope s__law_asked) := ⟨rfl, rfl, rfl, by decide +kernel, rfl, by decide +kernel, by decide +kernel⟩
abbrev s__law_label : Stmt := topS 33
abbrev N__law_label : List Str := ["state", "script", "k", "signs", "j"]
theorem sc__law_label : FnScope N__law_label ["state", "script", "k"] (defScope s__law_label) := ⟨rfl, rfl, rfl, by decide +kernel, rfl, by decide +kernel, by decide +kernel⟩
abbrev s__law_rows : Stmt := topS 34
abbrev N__law_rows : List Str := ["state", "script", "size", "code", "places", "names", "name", "rows", "k", "number", "words"]
theorem sc__law_rows : FnScope N__law_rows ["state", "script"] (defScope s__law_rows) := ⟨rfl, rfl, rfl, by decide +kernel, rfl, by decide +kernel, by decide +kernel⟩
abbrev s__law_text : Stmt := topS 35
abbrev N__law_text : List Str := ["state", "script", "rows", "lines", "numbers", "words"]
theorem sc__law_text : FnScope N__law_text ["state", "script", "rows"] (defScope s__law_text) := ⟨rfl, rfl, rfl, by decide +kernel, rfl, by decide +kernel, by decide +kernel⟩
abbrev s__law_bent : Stmt := topS 36
abbrev N__law_bent : List Str := ["state", "script", "rows", "places", "k", "words", "kind", "at", "word", "bent"]
theorem sc__law_bent : FnScope N__law_bent ["state", "script", "rows", "places"] (defScope s__law_bent) := ⟨rfl, rfl, rfl, by decide +kernel, rfl, by decide +kernel, by decide +kernel⟩
abbrev s_law : Stmt := topS 37
abbrev N_law : List Str := ["script", "state", "rows", "code", "places", "text", "numbers", "turn", "bent", "place", "told", "first", "lost", "wanted", "k", "good", "odd", "full", "one", "words"]
theorem sc_law : FnScope N_law ["script"] (defScope s_law) := ⟨rfl, rfl, rfl, by decide +kernel, rfl, by decide +kernel, by decide +kernel⟩
abbrev es_GateError : Stmt := (clsBody (topS 1)).getD 0 (.Pass ⟨0, 0, 0, 0⟩)
abbrev es_InvalidText : Stmt := (clsBody (topS 2)).getD 0 (.Pass ⟨0, 0, 0, 0⟩)
abbrev es_InvalidCode : Stmt := (clsBody (topS 3)).getD 0 (.Pass ⟨0, 0, 0, 0⟩)
structure Tx (P : Program) (w : World) (K : PySem.W.Frag) (mg : Str → Option Value) : Prop where
  n_all : mg "all" = none
  n_bool : mg "bool" = none
  n_int : mg "int" = none
  n_isinstance : mg "isinstance" = none
  n_len : mg "len" = none
  n_range : mg "range" = none
  n_str : mg "str" = none
  n_tuple : mg "tuple" = none
  k_ALU : ConOk K mg "ALU" k_ALU
  k_FIGURES : ConOk K mg "FIGURES" k_FIGURES
  k_LETTERS : ConOk K mg "LETTERS" k_LETTERS
  k_MOST_CODE : ConOk K mg "MOST_CODE" (.int 256)
  k_MOST_LABEL : ConOk K mg "MOST_LABEL" (.int 12)
  i_ALU : TupOk K mg "ALU" l_ALU
  t_FORMS : TabOk K w mg "FORMS" t_FORMS
  xf : XfOk K mg errs
  sub : SubOk K mg errs subE
  e_GateError : ∃ C, mg "GateError" = some (.ref C) ∧ MkE P w K mg C "GateError"
  e_InvalidText : ∃ C, mg "InvalidText" = some (.ref C) ∧ MkE P w K mg C "InvalidText"
  e_InvalidCode : ∃ C, mg "InvalidCode" = some (.ref C) ∧ MkE P w K mg C "InvalidCode"
  f_is_count : ∃ f fd, mg "is_count" = some (.ref f) ∧ Fun K "is_count" "is_count" s_is_count f fd ∧ Binds K fd ["value"] []
  f_instruction : ∃ f fd, mg "instruction" = some (.ref f) ∧ Fun K "instruction" "instruction" s_instruction f fd ∧ Binds K fd ["op", "rd", "rs", "imm"] []
  f_is_instruction : ∃ f fd, mg "is_instruction" = some (.ref f) ∧ Fun K "is_instruction" "is_instruction" s_is_instruction f fd ∧ Binds K fd ["value"] []
  f_check_instruction : ∃ f fd, mg "check_instruction" = some (.ref f) ∧ Fun K "check_instruction" "check_instruction" s_check_instruction f fd ∧ Binds K fd ["number"] []
  f_parts_of : ∃ f fd, mg "parts_of" = some (.ref f) ∧ Fun K "parts_of" "parts_of" s_parts_of f fd ∧ Binds K fd ["number"] []
  f_form_of : ∃ f fd, mg "form_of" = some (.ref f) ∧ Fun K "form_of" "form_of" s_form_of f fd ∧ Binds K fd ["number"] []
  f_instruction_text : ∃ f fd, mg "instruction_text" = some (.ref f) ∧ Fun K "instruction_text" "instruction_text" s_instruction_text f fd ∧ Binds K fd ["number"] []
  f_is_label : ∃ f fd, mg "is_label" = some (.ref f) ∧ Fun K "is_label" "is_label" s_is_label f fd ∧ Binds K fd ["value"] []
  f_code_rows : ∃ f fd, mg "code_rows" = some (.ref f) ∧ Fun K "code_rows" "code_rows" s_code_rows f fd ∧ Binds K fd ["text"] []
  f_is_label_row : ∃ f fd, mg "is_label_row" = some (.ref f) ∧ Fun K "is_label_row" "is_label_row" s_is_label_row f fd ∧ Binds K fd ["words"] []
  f_number_below : ∃ f fd, mg "number_below" = some (.ref f) ∧ Fun K "number_below" "number_below" s_number_below f fd ∧ Binds K fd ["word", "limit"] []
  f_part_told : ∃ f fd, mg "part_told" = some (.ref f) ∧ Fun K "part_told" "part_told" s_part_told f fd ∧ Binds K fd ["word", "sign", "labels"] []
  f_row_told : ∃ f fd, mg "row_told" = some (.ref f) ∧ Fun K "row_told" "row_told" s_row_told f fd ∧ Binds K fd ["row", "words", "labels"] []
  f_code_labels : ∃ f fd, mg "code_labels" = some (.ref f) ∧ Fun K "code_labels" "code_labels" s_code_labels f fd ∧ Binds K fd ["text"] []
  f_read_code : ∃ f fd, mg "read_code" = some (.ref f) ∧ Fun K "read_code" "read_code" s_read_code f fd ∧ Binds K fd ["text"] []
  f__law_draw : ∃ f fd, mg "_law_draw" = some (.ref f) ∧ Fun K "_law_draw" "_law_draw" s__law_draw f fd ∧ Binds K fd ["state", "script", "size"] []
  f__law_instr : ∃ f fd, mg "_law_instr" = some (.ref f) ∧ Fun K "_law_instr" "_law_instr" s__law_instr f fd ∧ Binds K fd ["state", "script", "most"] []
  f__law_asked : ∃ f fd, mg "_law_asked" = some (.ref f) ∧ Fun K "_law_asked" "_law_asked" s__law_asked f fd ∧ Binds K fd ["text"] []
  f__law_label : ∃ f fd, mg "_law_label" = some (.ref f) ∧ Fun K "_law_label" "_law_label" s__law_label f fd ∧ Binds K fd ["state", "script", "k"] []
  f__law_rows : ∃ f fd, mg "_law_rows" = some (.ref f) ∧ Fun K "_law_rows" "_law_rows" s__law_rows f fd ∧ Binds K fd ["state", "script"] []
  f__law_text : ∃ f fd, mg "_law_text" = some (.ref f) ∧ Fun K "_law_text" "_law_text" s__law_text f fd ∧ Binds K fd ["state", "script", "rows"] []
  f__law_bent : ∃ f fd, mg "_law_bent" = some (.ref f) ∧ Fun K "_law_bent" "_law_bent" s__law_bent f fd ∧ Binds K fd ["state", "script", "rows", "places"] []
section
variable {P : Program} {w : World} {K : PySem.W.Frag} {mg : Str → Option Value} {base : Heap}
theorem fm_is_count (T : Tx P w K mg) {f : Addr} {fd : FuncData} (F : Fun K "is_count" "is_count" s_is_count f fd) : FM P w K mg base 1 f fd ["value"] m_is_count := by
  exact fm_of F sc_is_count fun cdv A outer s H E hc => (mss_one (ms_ret (me_and (me_callB ks_isi rfl T.n_isinstance (by decide +kernel) (ma_cons (me_v 0) (ma_cons (me_ty rfl T.n_int (by decide +kernel)) ma_nil))) (me_and (me_not (me_callB ks_isi rfl T.n_isinstance (by decide +kernel) (ma_cons (me_v 0) (ma_cons (me_ty rfl T.n_bool (by decide +kernel)) ma_nil)))) (me_one (me_cmp os_geA (me_v 0) me_int (nomark _)))))))
theorem fm_instruction (T : Tx P w K mg) {f : Addr} {fd : FuncData} (F : Fun K "instruction" "instruction" s_instruction f fd) : FM P w K mg base 7 f fd ["op", "rd", "rs", "imm"] m_instruction := by
  obtain ⟨f_is_count, fd_is_count, g_is_count, F_is_count, b_is_count⟩ := T.f_is_count
  have C_is_count := (fm_is_count T F_is_count : FM P w K mg base _ _ _ _ _)
  obtain ⟨C_InvalidCode, mC_InvalidCode, E_InvalidCode⟩ := T.e_InvalidCode
  exact fm_of F sc_instruction fun cdv A outer s H E hc => (mss_cons (ms_par hc.calm sc_instruction.nd rfl rfl (by decide) rfl rfl (ma_cons (me_tup (ma_cons (me_v 0) (ma_cons (me_v 1) (ma_cons (me_v 2) (ma_cons (me_v 3) ma_nil))))) (ma_cons (me_tup (ma_cons me_int (ma_cons me_int (ma_cons me_int (ma_cons me_int ma_nil))))) ma_nil)) (by rfl))
    (mss_cons (ms_for hc.po hc.calm (mi_r1 rfl T.n_range (ma_cons me_int ma_nil)) (mg_name 6 sc_instruction.nd rfl (Or.inl rfl)) (mss_one (ms_if (MW.mt (mw_or (mt_not (mt_e (me_call C_is_count hc.tk (hc.room.mono (by decide)) rfl g_is_count b_is_count (ma_cons (me_item hc.room.units (me_v 4) (me_v 6)) ma_nil)))) (mw_or1 (mt_cmp os_geA (me_item hc.room.units (me_v 4) (me_v 6)) (me_item hc.room.units (me_v 5) (me_v 6)) (nomark _))))) (mss_one (ms_raise hc.calm hc.tk E_InvalidCode (hc.room.mono (by decide)) rfl mC_InvalidCode (me_v 6))) mss_nil)))
    (mss_one (ms_ret (me_op os_or (me_op os_or (me_op os_or (me_op os_shl (me_v 0) me_int) (me_op os_shl (me_v 1) me_int)) (me_op os_shl (me_v 2) me_int)) (me_v 3))))))
theorem fm_is_instruction (T : Tx P w K mg) {f : Addr} {fd : FuncData} (F : Fun K "is_instruction" "is_instruction" s_is_instruction f fd) : FM P w K mg base 2 f fd ["value"] m_is_instruction := by
  obtain ⟨f_is_count, fd_is_count, g_is_count, F_is_count, b_is_count⟩ := T.f_is_count
  have C_is_count := (fm_is_count T F_is_count : FM P w K mg base _ _ _ _ _)
  exact fm_of F sc_is_instruction fun cdv A outer s H E hc => (mss_one (ms_ret (me_and (me_call C_is_count hc.tk (hc.room.mono (by decide)) rfl g_is_count b_is_count (ma_cons (me_v 0) ma_nil)) (me_one (me_cmp os_ltA (me_v 0) (me_op os_shl me_int me_int) (nomark _))))))
theorem fm_check_instruction (T : Tx P w K mg) {f : Addr} {fd : FuncData} (F : Fun K "check_instruction" "check_instruction" s_check_instruction f fd) : FM P w K mg base 7 f fd ["number"] m_check_instruction := by
  obtain ⟨f_is_instruction, fd_is_instruction, g_is_instruction, F_is_instruction, b_is_instruction⟩ := T.f_is_instruction
  have C_is_instruction := (fm_is_instruction T F_is_instruction : FM P w K mg base _ _ _ _ _)
  obtain ⟨C_InvalidCode, mC_InvalidCode, E_InvalidCode⟩ := T.e_InvalidCode
  exact fm_of F sc_check_instruction fun cdv A outer s H E hc => (mss_one (ms_if (mt_not (mt_e (me_call C_is_instruction hc.tk (hc.room.mono (by decide)) rfl g_is_instruction b_is_instruction (ma_cons (me_v 0) ma_nil)))) (mss_one (ms_raise hc.calm hc.tk E_InvalidCode (hc.room.mono (by decide)) rfl mC_InvalidCode me_non)) mss_nil))
theorem fm_parts_of (T : Tx P w K mg) {f : Addr} {fd : FuncData} (F : Fun K "parts_of" "parts_of" s_parts_of f fd) : FM P w K mg base 8 f fd ["number"] m_parts_of := by
  obtain ⟨f_check_instruction, fd_check_instruction, g_check_instruction, F_check_instruction, b_check_instruction⟩ := T.f_check_instruction
  have C_check_instruction := (fm_check_instruction T F_check_instruction : FM P w K mg base _ _ _ _ _)
  exact fm_of F sc_parts_of fun cdv A outer s H E hc => (mss_cons (ms_expr (me_call C_check_instruction hc.tk (hc.room.mono (by decide)) rfl g_check_instruction b_check_instruction (ma_cons (me_v 0) ma_nil)))
    (mss_one (ms_ret (me_tup (ma_cons (me_op os_shr (me_v 0) me_int) (ma_cons (me_op os_and (me_op os_shr (me_v 0) me_int) me_int) (ma_cons (me_op os_and (me_op os_shr (me_v 0) me_int) me_int) (ma_cons (me_op os_and (me_v 0) me_int) ma_nil))))))))
theorem fm_form_of (T : Tx P w K mg) {f : Addr} {fd : FuncData} (F : Fun K "form_of" "form_of" s_form_of f fd) : FM P w K mg base 9 f fd ["number"] m_form_of := by
  obtain ⟨f_parts_of, fd_parts_of, g_parts_of, F_parts_of, b_parts_of⟩ := T.f_parts_of
  have C_parts_of := (fm_parts_of T F_parts_of : FM P w K mg base _ _ _ _ _)
  exact fm_of F sc_form_of fun cdv A outer s H E hc => (mss_cons (ms_asg (me_call C_parts_of hc.tk (hc.room.mono (by decide)) rfl g_parts_of b_parts_of (ma_cons (me_v 0) ma_nil)) (mg_tup hc.calm (mgs_cons (mg_name 1 sc_form_of.nd rfl (Or.inl rfl)) (mgs_cons (mg_name 2 sc_form_of.nd rfl (Or.inl rfl)) (mgs_cons (mg_name 3 sc_form_of.nd rfl (Or.inl rfl)) (mgs_cons (mg_name 4 sc_form_of.nd rfl (Or.inl rfl)) mgs_nil))))))
    (mss_cons (ms_set 5 sc_form_of.nd rfl (Or.inl rfl) (me_tup (ma_cons me_str (ma_cons me_str ma_nil))))
    (mss_cons (ms_if (MW.mt (mw_and (mt_cmp (os_eqA hc.room.units) (me_v 1) me_int (nomark _)) (mw_and1 (mt_cmp os_ltA (me_v 4) (me_callB ks_lenA rfl T.n_len (by decide +kernel) (ma_cons (me_con T.k_ALU rfl) ma_nil)) (nomark _))))) (mss_one (ms_set 5 sc_form_of.nd rfl (Or.inl rfl) (me_tup (ma_cons (me_item hc.room.units (me_con T.k_ALU rfl) (me_v 4)) (ma_cons me_str ma_nil))))) mss_nil)
    (mss_cons (ms_for hc.po hc.calm (mi_tab T.t_FORMS rfl) (mg_name 6 sc_form_of.nd rfl (Or.inl rfl)) (mss_one (ms_if (mt_cmp (os_eqA hc.room.units) (me_item hc.room.units (me_tget T.t_FORMS rfl (me_v 6)) me_int) (me_v 1) (nomark _)) (mss_one (ms_set 5 sc_form_of.nd rfl (Or.inl rfl) (me_tup (ma_cons (me_v 6) (ma_cons (me_item hc.room.units (me_tget T.t_FORMS rfl (me_v 6)) me_int) ma_nil))))) mss_nil)))
    (mss_cons (ms_set 7 sc_form_of.nd rfl (Or.inl rfl) (me_item hc.room.units (me_v 5) me_int))
    (mss_cons (ms_set 8 sc_form_of.nd rfl (Or.inl rfl) (me_or (me_and (me_cmp os_gtA (me_v 2) me_int (nomark _)) (me_one (me_notMem hc.room.units65 me_str (me_v 7) rfl))) (me_one (me_and (me_cmp os_gtA (me_v 3) me_int (nomark _)) (me_one (me_notMem hc.room.units65 me_str (me_v 7) rfl))))))
    (mss_cons (ms_if (MW.mt (mw_and (mt_cmp os_gtA (me_v 1) me_int (nomark _)) (mw_and (mt_cmp os_gtA (me_v 4) me_int (nomark _)) (mw_and (mt_notMem hc.room.units65 me_str (me_v 7) rfl) (mw_and1 (mt_notMem hc.room.units65 me_str (me_v 7) rfl)))))) (mss_one (ms_set 8 sc_form_of.nd rfl (Or.inl rfl) me_bl)) mss_nil)
    (mss_one (ms_ret (me_if (mt_e (me_v 8)) (me_tup (ma_cons me_str (ma_cons me_str ma_nil))) (me_v 5)))))))))))
theorem fm_instruction_text (T : Tx P w K mg) {f : Addr} {fd : FuncData} (F : Fun K "instruction_text" "instruction_text" s_instruction_text f fd) : FM P w K mg base 10 f fd ["number"] m_instruction_text := by
  obtain ⟨f_parts_of, fd_parts_of, g_parts_of, F_parts_of, b_parts_of⟩ := T.f_parts_of
  have C_parts_of := (fm_parts_of T F_parts_of : FM P w K mg base _ _ _ _ _)
  obtain ⟨f_form_of, fd_form_of, g_form_of, F_form_of, b_form_of⟩ := T.f_form_of
  have C_form_of := (fm_form_of T F_form_of : FM P w K mg base _ _ _ _ _)
  exact fm_of F sc_instruction_text fun cdv A outer s H E hc => (mss_cons (ms_asg (me_call C_parts_of hc.tk (hc.room.mono (by decide)) rfl g_parts_of b_parts_of (ma_cons (me_v 0) ma_nil)) (mg_tup hc.calm (mgs_cons (mg_name 1 sc_instruction_text.nd rfl (Or.inl rfl)) (mgs_cons (mg_name 2 sc_instruction_text.nd rfl (Or.inl rfl)) (mgs_cons (mg_name 3 sc_instruction_text.nd rfl (Or.inl rfl)) (mgs_cons (mg_name 4 sc_instruction_text.nd rfl (Or.inl rfl)) mgs_nil))))))
    (mss_cons (ms_asg (me_call C_form_of hc.tk (hc.room.mono (by decide)) rfl g_form_of b_form_of (ma_cons (me_v 0) ma_nil)) (mg_tup hc.calm (mgs_cons (mg_name 5 sc_instruction_text.nd rfl (Or.inl rfl)) (mgs_cons (mg_name 6 sc_instruction_text.nd rfl (Or.inl rfl)) mgs_nil))))
    (mss_cons (ms_set 7 sc_instruction_text.nd rfl (Or.inr rfl) (me_disp (mps_cons me_str (me_js (mj_cons me_str (mj_cons (me_fmt (me_v 2)) mj_nil))) (mps_cons me_str (me_js (mj_cons me_str (mj_cons (me_fmt (me_v 3)) mj_nil))) (mps_cons me_str (me_callTy ks_str rfl T.n_str (by decide +kernel) (ma_cons (me_v 4) ma_nil)) (mps_cons me_str (me_callTy ks_str rfl T.n_str (by decide +kernel) (ma_cons (me_v 4) ma_nil)) (mps_cons me_str (me_callTy ks_str rfl T.n_str (by decide +kernel) (ma_cons (me_v 0) ma_nil)) mps_nil)))))))
    (mss_one (ms_ret (me_m km_join me_str (ma_cons (me_op os_addA (me_lst (ma_cons (me_v 5) ma_nil)) (me_lc (own := [("sign", 8)]) hc.calm sc_instruction_text.nd (mi_it (me_v 6)) (blkOk_by (N := N_instruction_text) (sc := defScope s_instruction_text) (by decide +kernel)) ⟨_, gs_name 8, fun _ _ _ _ _ => pg_name (i := 8) sc_instruction_text.nd rfl (Or.inl rfl)⟩ (fun _ _ _ _ _ => mts_nil) (fun _ _ _ _ _ => (me_item hc.room.units (me_v 7) (me_v 8))))) ma_nil)))))))
theorem fm_is_label (T : Tx P w K mg) {f : Addr} {fd : FuncData} (F : Fun K "is_label" "is_label" s_is_label f fd) : FM P w K mg base 1 f fd ["value"] m_is_label := by
  exact fm_of F sc_is_label fun cdv A outer s H E hc => (mss_cons (ms_if (MW.mt (mw_or (mt_not (mt_e (me_callB ks_isi rfl T.n_isinstance (by decide +kernel) (ma_cons (me_v 0) (ma_cons (me_ty rfl T.n_str (by decide +kernel)) ma_nil))))) (mw_or (mt_not (mt_chain os_ltA os_leA me_int (me_callB ks_lenA rfl T.n_len (by decide +kernel) (ma_cons (me_v 0) ma_nil)) (me_con T.k_MOST_LABEL rfl))) (mw_or1 (mt_notMem hc.room.units65 (me_item hc.room.units (me_v 0) me_int) (me_con T.k_LETTERS rfl) rfl))))) (mss_one (ms_ret me_bl)) mss_nil)
    (mss_one (ms_ret (me_callB (ks_all hc.calm) rfl T.n_all (by decide +kernel) (ma_cons (me_lc (own := [("sign", 1)]) hc.calm sc_is_label.nd (mi_it (me_v 0)) (blkOk_by (N := N_is_label) (sc := defScope s_is_label) (by decide +kernel)) ⟨_, gs_name 1, fun _ _ _ _ _ => pg_name (i := 1) sc_is_label.nd rfl (Or.inl rfl)⟩ (fun _ _ _ _ _ => mts_nil) (fun _ _ _ _ _ => (me_or (me_mem hc.room.units65 (me_v 1) (me_con T.k_LETTERS rfl) rfl) (me_one (me_mem hc.room.units65 (me_v 1) (me_con T.k_FIGURES rfl) rfl))))) ma_nil)))))
theorem fm_code_rows (T : Tx P w K mg) {f : Addr} {fd : FuncData} (F : Fun K "code_rows" "code_rows" s_code_rows f fd) : FM P w K mg base 1 f fd ["text"] m_code_rows := by
  exact fm_of F sc_code_rows fun cdv A outer s H E hc => (mss_cons (ms_par hc.calm sc_code_rows.nd rfl rfl (by decide) rfl rfl (ma_cons (me_m km_split (me_v 0) (ma_cons me_str ma_nil)) (ma_cons (me_new 0 ma_nil) ma_nil)) (by rfl))
    (mss_cons (ms_for hc.po hc.calm (mi_r1 rfl T.n_range (ma_cons (me_callB ks_lenA rfl T.n_len (by decide +kernel) (ma_cons (me_v 1) ma_nil)) ma_nil)) (mg_name 3 sc_code_rows.nd rfl (Or.inl rfl)) (mss_cons (ms_setLc (own := [("word", 5)]) 4 hc.calm sc_code_rows.nd rfl rfl (sw_true rfl rfl rfl (by decide +kernel)) (mi_it (me_m km_split (me_item hc.room.units (me_m km_split (me_item hc.room.units (me_v 1) (me_v 3)) (ma_cons me_str ma_nil)) me_int) (ma_cons me_str ma_nil))) (blkOk_by (N := N_code_rows) (sc := defScope s_code_rows) (by decide +kernel)) ⟨_, gs_name 5, fun _ _ _ _ _ => pg_name (i := 5) sc_code_rows.nd rfl (Or.inl rfl)⟩ (fun _ _ _ _ _ => (mts_one (mt_cmp (os_neA hc.room.units) (me_v 5) me_str (nomark _)))) (fun _ _ _ _ _ => (me_v 5)))
    (mss_one (ms_if (mt_cmp os_gtA (me_callB ks_lenA rfl T.n_len (by decide +kernel) (ma_cons (me_v 4) ma_nil)) me_int (nomark _)) (mss_one (ms_expr (me_app (me_v 2) (me_tup (ma_cons (me_v 3) (ma_cons (me_v 4) ma_nil)))))) mss_nil))))
    (mss_one (ms_ret (me_v 2)))))
theorem fm_is_label_row (T : Tx P w K mg) {f : Addr} {fd : FuncData} (F : Fun K "is_label_row" "is_label_row" s_is_label_row f fd) : FM P w K mg base 2 f fd ["words"] m_is_label_row := by
  obtain ⟨f_is_label, fd_is_label, g_is_label, F_is_label, b_is_label⟩ := T.f_is_label
  have C_is_label := (fm_is_label T F_is_label : FM P w K mg base _ _ _ _ _)
  exact fm_of F sc_is_label_row fun cdv A outer s H E hc => (mss_one (ms_ret (me_and (me_cmp (os_eqA hc.room.units) (me_callB ks_lenA rfl T.n_len (by decide +kernel) (ma_cons (me_v 0) ma_nil)) me_int (nomark _)) (me_and (me_cmp (os_eqA hc.room.units) (me_sl (me_item hc.room.units (me_v 0) me_int) (mo_some (me_un us_neg me_int)) mo_none) me_str (nomark _)) (me_one (me_call C_is_label hc.tk (hc.room.mono (by decide)) rfl g_is_label b_is_label (ma_cons (me_sl (me_item hc.room.units (me_v 0) me_int) mo_none (mo_some (me_un us_neg me_int))) ma_nil)))))))
theorem fm_number_below (T : Tx P w K mg) {f : Addr} {fd : FuncData} (F : Fun K "number_below" "number_below" s_number_below f fd) : FM P w K mg base 1 f fd ["word", "limit"] m_number_below := by
  exact fm_of F sc_number_below fun cdv A outer s H E hc => (mss_cons (ms_if (MW.mt (mw_or (mt_not (mt_chain os_ltA os_leA me_int (me_callB ks_lenA rfl T.n_len (by decide +kernel) (ma_cons (me_v 0) ma_nil)) me_int)) (mw_or (mt_not (mt_e (me_callB (ks_all hc.calm) rfl T.n_all (by decide +kernel) (ma_cons (me_lc (own := [("sign", 2)]) hc.calm sc_number_below.nd (mi_it (me_v 0)) (blkOk_by (N := N_number_below) (sc := defScope s_number_below) (by decide +kernel)) ⟨_, gs_name 2, fun _ _ _ _ _ => pg_name (i := 2) sc_number_below.nd rfl (Or.inl rfl)⟩ (fun _ _ _ _ _ => mts_nil) (fun _ _ _ _ _ => (me_mem hc.room.units65 (me_v 2) (me_con T.k_FIGURES rfl) rfl))) ma_nil)))) (mw_or1 (MW.mt (mw_and (mt_cmp (os_eqA hc.room.units) (me_item hc.room.units (me_v 0) me_int) me_str (nomark _)) (mw_and1 (mt_cmp (os_neA hc.room.units) (me_v 0) me_str (nomark _))))))))) (mss_one (ms_ret me_non)) mss_nil)
    (mss_one (ms_ret (me_if (mt_cmp os_ltA (me_callTy ks_intA rfl T.n_int (by decide +kernel) (ma_cons (me_v 0) ma_nil)) (me_v 1) (nomark _)) (me_callTy ks_intA rfl T.n_int (by decide +kernel) (ma_cons (me_v 0) ma_nil)) me_non))))
theorem fm_part_told (T : Tx P w K mg) {f : Addr} {fd : FuncData} (F : Fun K "part_told" "part_told" s_part_told f fd) : FM P w K mg base 2 f fd ["word", "sign", "labels"] m_part_told := by
  obtain ⟨f_number_below, fd_number_below, g_number_below, F_number_below, b_number_below⟩ := T.f_number_below
  have C_number_below := (fm_number_below T F_number_below : FM P w K mg base _ _ _ _ _)
  exact fm_of F sc_part_told fun cdv A outer s H E hc => (mss_cons (ms_if (mt_mem hc.room.units65 (me_v 1) (me_tup (ma_cons me_str (ma_cons me_str ma_nil))) rfl) (mss_one (ms_ret (me_if (mt_cmp (os_eqA hc.room.units) (me_sl (me_v 0) mo_none (mo_some me_int)) me_str (nomark _)) (me_call C_number_below hc.tk (hc.room.mono (by decide)) rfl g_number_below b_number_below (ma_cons (me_sl (me_v 0) (mo_some me_int) mo_none) (ma_cons me_int ma_nil))) me_non))) mss_nil)
    (mss_cons (ms_if (MW.mt (mw_and (mt_cmp (os_eqA hc.room.units) (me_v 1) me_str (nomark _)) (mw_and1 (mt_mem hc.room.units65 (me_v 0) (me_v 2) rfl)))) (mss_one (ms_ret (me_if (mt_cmp os_ltA (me_item hc.room.units (me_v 2) (me_v 0)) me_int (nomark _)) (me_item hc.room.units (me_v 2) (me_v 0)) me_non))) mss_nil)
    (mss_one (ms_ret (me_call C_number_below hc.tk (hc.room.mono (by decide)) rfl g_number_below b_number_below (ma_cons (me_v 0) (ma_cons (me_if (mt_cmp (os_eqA hc.room.units) (me_v 1) me_str (nomark _)) (me_op os_shl me_int me_int) me_int) ma_nil)))))))
theorem fm_row_told (T : Tx P w K mg) {f : Addr} {fd : FuncData} (F : Fun K "row_told" "row_told" s_row_told f fd) : FM P w K mg base 8 f fd ["row", "words", "labels"] m_row_told := by
  obtain ⟨f_instruction, fd_instruction, g_instruction, F_instruction, b_instruction⟩ := T.f_instruction
  have C_instruction := (fm_instruction T F_instruction : FM P w K mg base _ _ _ _ _)
  obtain ⟨f_part_told, fd_part_told, g_part_told, F_part_told, b_part_told⟩ := T.f_part_told
  have C_part_told := (fm_part_told T F_part_told : FM P w K mg base _ _ _ _ _)
  obtain ⟨C_InvalidText, mC_InvalidText, E_InvalidText⟩ := T.e_InvalidText
  exact fm_of F sc_row_told fun cdv A outer s H E hc => (mss_cons (ms_if (mt_mem hc.room.units65 (me_item hc.room.units (me_v 1) me_int) (me_con T.k_ALU rfl) rfl) (mss_one (ms_parT hc.calm sc_row_told.nd rfl rfl rfl (by decide) (by decide) (by decide) rfl rfl rfl (ma_cons me_int (ma_cons me_str (ma_cons (me_tidx T.i_ALU rfl (ma_cons (me_item hc.room.units (me_v 1) me_int) ma_nil)) ma_nil))) (by rfl))) (mss_one (ms_if (mt_tin T.t_FORMS rfl (me_item hc.room.units (me_v 1) me_int)) (mss_one (ms_parT hc.calm sc_row_told.nd rfl rfl rfl (by decide) (by decide) (by decide) rfl rfl rfl (ma_cons (me_item hc.room.units (me_tget T.t_FORMS rfl (me_item hc.room.units (me_v 1) me_int)) me_int) (ma_cons (me_item hc.room.units (me_tget T.t_FORMS rfl (me_item hc.room.units (me_v 1) me_int)) me_int) (ma_cons me_int ma_nil))) (by rfl))) (mss_one (ms_if (mt_cmp (os_eqA hc.room.units) (me_item hc.room.units (me_v 1) me_int) me_str (nomark _)) (mss_one (ms_asg (me_tup (ma_cons me_int (ma_cons me_str (ma_cons me_int ma_nil)))) (mg_tup hc.calm (mgs_cons (mg_name 3 sc_row_told.nd rfl (Or.inl rfl)) (mgs_cons (mg_name 4 sc_row_told.nd rfl (Or.inl rfl)) (mgs_cons (mg_name 5 sc_row_told.nd rfl (Or.inl rfl)) mgs_nil)))))) (mss_one (ms_raise hc.calm hc.tk E_InvalidText (hc.room.mono (by decide)) rfl mC_InvalidText (me_tup (ma_cons (me_v 0) (ma_cons me_int ma_nil))))))))))
    (mss_cons (ms_set 6 sc_row_told.nd rfl (Or.inl rfl) (me_dispN 0 (mps_cons me_str me_int (mps_cons me_str me_int (mps_cons me_str (me_v 5) mps_nil)))))
    (mss_cons (ms_for hc.po hc.calm (mi_r1 rfl T.n_range (ma_cons (me_callB ks_lenA rfl T.n_len (by decide +kernel) (ma_cons (me_v 4) ma_nil)) ma_nil)) (mg_name 7 sc_row_told.nd rfl (Or.inl rfl)) (mss_cons (ms_set 8 sc_row_told.nd rfl (Or.inl rfl) (me_if (mt_cmp os_ltA (me_op os_addA (me_v 7) me_int) (me_callB ks_lenA rfl T.n_len (by decide +kernel) (ma_cons (me_v 1) ma_nil)) (nomark _)) (me_call C_part_told hc.tk (hc.room.mono (by decide)) rfl g_part_told b_part_told (ma_cons (me_item hc.room.units (me_v 1) (me_op os_addA (me_v 7) me_int)) (ma_cons (me_item hc.room.units (me_v 4) (me_v 7)) (ma_cons (me_v 2) ma_nil)))) me_non))
    (mss_cons (ms_if (mt_cmp os_isN (me_v 8) me_non (nomark _)) (mss_one (ms_raise hc.calm hc.tk E_InvalidText (hc.room.mono (by decide)) rfl mC_InvalidText (me_tup (ma_cons (me_v 0) (ma_cons (me_op os_addA (me_v 7) me_int) ma_nil))))) mss_nil)
    (mss_one (ms_setA hc.room.units (me_v 8) (me_v 6) (me_if (mt_cmp (os_eqA hc.room.units) (me_item hc.room.units (me_v 4) (me_v 7)) me_str (nomark _)) me_str (me_item hc.room.units (me_v 4) (me_v 7))))))))
    (mss_cons (ms_if (mt_cmp os_gtA (me_callB ks_lenA rfl T.n_len (by decide +kernel) (ma_cons (me_v 1) ma_nil)) (me_op os_addA (me_callB ks_lenA rfl T.n_len (by decide +kernel) (ma_cons (me_v 4) ma_nil)) me_int) (nomark _)) (mss_one (ms_raise hc.calm hc.tk E_InvalidText (hc.room.mono (by decide)) rfl mC_InvalidText (me_tup (ma_cons (me_v 0) (ma_cons (me_op os_addA (me_callB ks_lenA rfl T.n_len (by decide +kernel) (ma_cons (me_v 4) ma_nil)) me_int) ma_nil))))) mss_nil)
    (mss_one (ms_ret (me_if (mt_cmp (os_eqA hc.room.units) (me_v 4) me_str (nomark _)) (me_item hc.room.units (me_v 6) me_str) (me_call C_instruction hc.tk (hc.room.mono (by decide)) rfl g_instruction b_instruction (ma_cons (me_v 3) (ma_cons (me_item hc.room.units (me_v 6) me_str) (ma_cons (me_item hc.room.units (me_v 6) me_str) (ma_cons (me_item hc.room.units (me_v 6) me_str) ma_nil))))))))))))
theorem fm_code_labels (T : Tx P w K mg) {f : Addr} {fd : FuncData} (F : Fun K "code_labels" "code_labels" s_code_labels f fd) : FM P w K mg base 3 f fd ["text"] m_code_labels := by
  obtain ⟨f_code_rows, fd_code_rows, g_code_rows, F_code_rows, b_code_rows⟩ := T.f_code_rows
  have C_code_rows := (fm_code_rows T F_code_rows : FM P w K mg base _ _ _ _ _)
  obtain ⟨f_is_label_row, fd_is_label_row, g_is_label_row, F_is_label_row, b_is_label_row⟩ := T.f_is_label_row
  have C_is_label_row := (fm_is_label_row T F_is_label_row : FM P w K mg base _ _ _ _ _)
  exact fm_of F sc_code_labels fun cdv A outer s H E hc => (mss_cons (ms_par hc.calm sc_code_labels.nd rfl rfl (by decide) rfl rfl (ma_cons (me_emptyK 0) (ma_cons me_int ma_nil)) (by rfl))
    (mss_cons (ms_forA hc.po hc.calm (me_call C_code_rows hc.tk (hc.room.mono (by decide)) rfl g_code_rows b_code_rows (ma_cons (me_v 0) ma_nil)) (mg_tup hc.calm (mgs_cons (mg_name 3 sc_code_labels.nd rfl (Or.inl rfl)) (mgs_cons (mg_name 4 sc_code_labels.nd rfl (Or.inl rfl)) mgs_nil))) (mss_one (ms_if (mt_e (me_call C_is_label_row hc.tk (hc.room.mono (by decide)) rfl g_is_label_row b_is_label_row (ma_cons (me_v 4) ma_nil))) (mss_one (ms_expr (me_setd (me_v 1) (me_sl (me_item hc.room.units (me_v 4) me_int) mo_none (mo_some (me_un us_neg me_int))) (me_v 2)))) (mss_one (ms_aug 2 osi_addA sc_code_labels.nd rfl (Or.inl rfl) me_int)))))
    (mss_one (ms_ret (me_v 1)))))
theorem fm_read_code (T : Tx P w K mg) {f : Addr} {fd : FuncData} (F : Fun K "read_code" "read_code" s_read_code f fd) : FM P w K mg base 9 f fd ["text"] m_read_code := by
  obtain ⟨f_code_rows, fd_code_rows, g_code_rows, F_code_rows, b_code_rows⟩ := T.f_code_rows
  have C_code_rows := (fm_code_rows T F_code_rows : FM P w K mg base _ _ _ _ _)
  obtain ⟨f_code_labels, fd_code_labels, g_code_labels, F_code_labels, b_code_labels⟩ := T.f_code_labels
  have C_code_labels := (fm_code_labels T F_code_labels : FM P w K mg base _ _ _ _ _)
  obtain ⟨f_is_label_row, fd_is_label_row, g_is_label_row, F_is_label_row, b_is_label_row⟩ := T.f_is_label_row
  have C_is_label_row := (fm_is_label_row T F_is_label_row : FM P w K mg base _ _ _ _ _)
  obtain ⟨f_row_told, fd_row_told, g_row_told, F_row_told, b_row_told⟩ := T.f_row_told
  have C_row_told := (fm_row_told T F_row_told : FM P w K mg base _ _ _ _ _)
  obtain ⟨C_InvalidText, mC_InvalidText, E_InvalidText⟩ := T.e_InvalidText
  exact fm_of F sc_read_code fun cdv A outer s H E hc => (mss_cons (ms_parT hc.calm sc_read_code.nd rfl rfl rfl (by decide) (by decide) (by decide) rfl rfl rfl (ma_cons (me_call C_code_labels hc.tk (hc.room.mono (by decide)) rfl g_code_labels b_code_labels (ma_cons (me_v 0) ma_nil)) (ma_cons (me_emptyK 0) (ma_cons (me_new 0 ma_nil) ma_nil))) (by rfl))
    (mss_cons (ms_forA hc.po hc.calm (me_call C_code_rows hc.tk (hc.room.mono (by decide)) rfl g_code_rows b_code_rows (ma_cons (me_v 0) ma_nil)) (mg_tup hc.calm (mgs_cons (mg_name 4 sc_read_code.nd rfl (Or.inl rfl)) (mgs_cons (mg_name 5 sc_read_code.nd rfl (Or.inl rfl)) mgs_nil))) (mss_one (ms_if (mt_e (me_call C_is_label_row hc.tk (hc.room.mono (by decide)) rfl g_is_label_row b_is_label_row (ma_cons (me_v 5) ma_nil))) (mss_cons (ms_if (MW.mt (mw_or (mt_mem hc.room.units65 (me_item hc.room.units (me_v 5) me_int) (me_v 2) rfl) (mw_or1 (mt_cmp os_geA (me_item hc.room.units (me_v 1) (me_sl (me_item hc.room.units (me_v 5) me_int) mo_none (mo_some (me_un us_neg me_int)))) (me_con T.k_MOST_CODE rfl) (nomark _))))) (mss_one (ms_raise hc.calm hc.tk E_InvalidText (hc.room.mono (by decide)) rfl mC_InvalidText (me_tup (ma_cons (me_v 4) (ma_cons me_int ma_nil))))) mss_nil)
    (mss_one (ms_setA hc.room.units me_bl (me_v 2) (me_item hc.room.units (me_v 5) me_int)))) (mss_cons (ms_if (mt_cmp (os_eqA hc.room.units) (me_callB ks_lenA rfl T.n_len (by decide +kernel) (ma_cons (me_v 3) ma_nil)) (me_con T.k_MOST_CODE rfl) (nomark _)) (mss_one (ms_raise hc.calm hc.tk E_InvalidText (hc.room.mono (by decide)) rfl mC_InvalidText (me_tup (ma_cons (me_v 4) (ma_cons me_int ma_nil))))) mss_nil)
    (mss_one (ms_expr (me_app (me_v 3) (me_call C_row_told hc.tk (hc.room.mono (by decide)) rfl g_row_told b_row_told (ma_cons (me_v 4) (ma_cons (me_v 5) (ma_cons (me_v 1) ma_nil)))))))))))
    (mss_one (ms_ret (me_callTy ks_tuple rfl T.n_tuple (by decide +kernel) (ma_cons (me_v 3) ma_nil))))))
theorem fm__law_draw (T : Tx P w K mg) {f : Addr} {fd : FuncData} (F : Fun K "_law_draw" "_law_draw" s__law_draw f fd) : FM P w K mg base 1 f fd ["state", "script", "size"] m__law_draw := by
  exact fm_of F sc__law_draw fun cdv A outer s H E hc => (mss_cons (ms_if (mt_cmp (os_eqA hc.room.units) (me_item hc.room.units (me_v 0) me_int) me_int (nomark _)) (mss_cons (ms_set 3 sc__law_draw.nd rfl (Or.inl rfl) me_int)
    (mss_cons (ms_if (mt_cmp os_gtA (me_callB ks_lenA rfl T.n_len (by decide +kernel) (ma_cons (me_v 1) ma_nil)) me_int (nomark _)) (mss_one (ms_set 3 sc__law_draw.nd rfl (Or.inl rfl) (me_item hc.room.units (me_v 1) (me_op os_mod (me_item hc.room.units (me_v 0) me_int) (me_callB ks_lenA rfl T.n_len (by decide +kernel) (ma_cons (me_v 1) ma_nil)))))) mss_nil)
    (mss_cons (ms_if (mt_cmp os_ltA (me_v 3) me_int (nomark _)) (mss_one (ms_set 3 sc__law_draw.nd rfl (Or.inl rfl) (me_op os_sub me_int (me_op os_mul me_int (me_v 3))))) mss_nil)
    (mss_cons (ms_set 4 sc__law_draw.nd rfl (Or.inl rfl) (me_op os_mod (me_callTy ks_intA rfl T.n_int (by decide +kernel) (ma_cons (me_op os_mul (me_op os_addA (me_op os_addA (me_v 3) (me_op os_mul (me_item hc.room.units (me_v 0) me_int) me_int)) me_int) me_int) ma_nil)) me_int))
    (mss_cons (ms_setA hc.room.units (me_op os_mod (me_callTy ks_intA rfl T.n_int (by decide +kernel) (ma_cons (me_op os_addA (me_op os_mul (me_v 4) me_int) (me_op os_mul (me_item hc.room.units (me_v 0) me_int) me_int)) ma_nil)) me_int) (me_v 0) me_int)
    (mss_cons (ms_if (MW.mt (mw_and (mt_cmp os_geA (me_v 3) (me_op os_pow me_int me_int) (nomark _)) (mw_and1 (mt_cmp os_ltA (me_item hc.room.units (me_v 0) me_int) (me_callB ks_lenA rfl T.n_len (by decide +kernel) (ma_cons (me_v 1) ma_nil)) (nomark _))))) (mss_one (ms_setA hc.room.units (me_v 3) (me_v 0) me_int)) mss_nil)
    (mss_one (ms_setA hc.room.units (me_op os_addA (me_item hc.room.units (me_v 0) me_int) me_int) (me_v 0) me_int)))))))) mss_nil)
    (mss_cons (ms_set 5 sc__law_draw.nd rfl (Or.inl rfl) (me_op os_mod (me_callTy ks_intA rfl T.n_int (by decide +kernel) (ma_cons (me_item hc.room.units (me_v 0) me_int) ma_nil)) (me_v 2)))
    (mss_cons (ms_setA hc.room.units (me_op os_fdiv (me_item hc.room.units (me_v 0) me_int) (me_v 2)) (me_v 0) me_int)
    (mss_one (ms_ret (me_v 5))))))
theorem fm__law_instr (T : Tx P w K mg) {f : Addr} {fd : FuncData} (F : Fun K "_law_instr" "_law_instr" s__law_instr f fd) : FM P w K mg base 2 f fd ["state", "script", "most"] m__law_instr := by
  obtain ⟨f__law_draw, fd__law_draw, g__law_draw, F__law_draw, b__law_draw⟩ := T.f__law_draw
  have C__law_draw := (fm__law_draw T F__law_draw : FM P w K mg base _ _ _ _ _)
  exact fm_of F sc__law_instr fun cdv A outer s H E hc => (mss_cons (ms_set 3 sc__law_instr.nd rfl (Or.inl rfl) (me_call C__law_draw hc.tk (hc.room.mono (by decide)) rfl g__law_draw b__law_draw (ma_cons (me_v 0) (ma_cons (me_v 1) (ma_cons (me_op os_addA (me_v 2) me_int) ma_nil)))))
    (mss_cons (ms_set 4 sc__law_instr.nd rfl (Or.inl rfl) (me_item hc.room.units (me_lst (ma_cons (me_call C__law_draw hc.tk (hc.room.mono (by decide)) rfl g__law_draw b__law_draw (ma_cons (me_v 0) (ma_cons (me_v 1) (ma_cons me_int ma_nil)))) (ma_cons (me_call C__law_draw hc.tk (hc.room.mono (by decide)) rfl g__law_draw b__law_draw (ma_cons (me_v 0) (ma_cons (me_v 1) (ma_cons me_int ma_nil)))) (ma_cons (me_call C__law_draw hc.tk (hc.room.mono (by decide)) rfl g__law_draw b__law_draw (ma_cons (me_v 0) (ma_cons (me_v 1) (ma_cons me_int ma_nil)))) (ma_cons me_int ma_nil))))) (me_call C__law_draw hc.tk (hc.room.mono (by decide)) rfl g__law_draw b__law_draw (ma_cons (me_v 0) (ma_cons (me_v 1) (ma_cons me_int ma_nil))))))
    (mss_one (ms_ret (me_op os_or (me_op os_or (me_op os_or (me_op os_shl (me_v 3) me_int) (me_op os_shl (me_call C__law_draw hc.tk (hc.room.mono (by decide)) rfl g__law_draw b__law_draw (ma_cons (me_v 0) (ma_cons (me_v 1) (ma_cons me_int ma_nil)))) me_int)) (me_op os_shl (me_call C__law_draw hc.tk (hc.room.mono (by decide)) rfl g__law_draw b__law_draw (ma_cons (me_v 0) (ma_cons (me_v 1) (ma_cons me_int ma_nil)))) me_int)) (me_v 4))))))
theorem fm__law_asked (T : Tx P w K mg) {f : Addr} {fd : FuncData} (F : Fun K "_law_asked" "_law_asked" s__law_asked f fd) : FM P w K mg base 10 f fd ["text"] m__law_asked := by
  obtain ⟨f_read_code, fd_read_code, g_read_code, F_read_code, b_read_code⟩ := T.f_read_code
  have C_read_code := (fm_read_code T F_read_code : FM P w K mg base _ _ _ _ _)
  obtain ⟨C_InvalidText, mC_InvalidText, E_InvalidText⟩ := T.e_InvalidText
  exact fm_of F sc__law_asked fun cdv A outer s H E hc => (mss_one (ms_try rfl rfl sc__law_asked.nd hc.tk T.sub (fun _ _ _ tk1 po1 => (mss_one (ms_ret (me_call C_read_code tk1 (hc.room.mono (by decide)) rfl g_read_code b_read_code (ma_cons (me_v 0) ma_nil))))) (HdsX.consAs rfl mC_InvalidText (.tail _ (.head _)) (by decide) rfl rfl (fun a oe cls d pn hz ho => (mssx_one (msx_ret (mx_tup (max_cons (mx_lift me_str) (max_cons (mx_fld T.xf (Or.inl rfl) hz ho rfl (Or.inl rfl)) max_nil)))))) HdsX.nil)))
theorem fm__law_label (T : Tx P w K mg) {f : Addr} {fd : FuncData} (F : Fun K "_law_label" "_law_label" s__law_label f fd) : FM P w K mg base 2 f fd ["state", "script", "k"] m__law_label := by
  obtain ⟨f__law_draw, fd__law_draw, g__law_draw, F__law_draw, b__law_draw⟩ := T.f__law_draw
  have C__law_draw := (fm__law_draw T F__law_draw : FM P w K mg base _ _ _ _ _)
  exact fm_of F sc__law_label fun cdv A outer s H E hc => (mss_cons (ms_set 3 sc__law_label.nd rfl (Or.inr rfl) me_str)
    (mss_one (ms_ret (me_op os_addA (me_op os_addA (me_item hc.room.units me_str (me_call C__law_draw hc.tk (hc.room.mono (by decide)) rfl g__law_draw b__law_draw (ma_cons (me_v 0) (ma_cons (me_v 1) (ma_cons me_int ma_nil))))) (me_m km_join me_str (ma_cons (me_lc (own := [("j", 4)]) hc.calm sc__law_label.nd (mi_r1 rfl T.n_range (ma_cons (me_call C__law_draw hc.tk (hc.room.mono (by decide)) rfl g__law_draw b__law_draw (ma_cons (me_v 0) (ma_cons (me_v 1) (ma_cons me_int ma_nil)))) ma_nil)) (blkOk_by (N := N__law_label) (sc := defScope s__law_label) (by decide +kernel)) ⟨_, gs_name 4, fun _ _ _ _ _ => pg_name (i := 4) sc__law_label.nd rfl (Or.inl rfl)⟩ (fun _ _ _ _ _ => mts_nil) (fun _ _ _ _ _ => (me_item hc.room.units (me_v 3) (me_call C__law_draw takes0 (hc.room.mono (by decide)) rfl g__law_draw b__law_draw (ma_cons (me_v 0) (ma_cons (me_v 1) (ma_cons me_int ma_nil))))))) ma_nil))) (me_item hc.room.units me_str (me_v 2))))))
theorem fm__law_rows (T : Tx P w K mg) {f : Addr} {fd : FuncData} (F : Fun K "_law_rows" "_law_rows" s__law_rows f fd) : FM P w K mg base 11 f fd ["state", "script"] m__law_rows := by
  obtain ⟨f__law_label, fd__law_label, g__law_label, F__law_label, b__law_label⟩ := T.f__law_label
  have C__law_label := (fm__law_label T F__law_label : FM P w K mg base _ _ _ _ _)
  obtain ⟨f__law_draw, fd__law_draw, g__law_draw, F__law_draw, b__law_draw⟩ := T.f__law_draw
  have C__law_draw := (fm__law_draw T F__law_draw : FM P w K mg base _ _ _ _ _)
  obtain ⟨f__law_instr, fd__law_instr, g__law_instr, F__law_instr, b__law_instr⟩ := T.f__law_instr
  have C__law_instr := (fm__law_instr T F__law_instr : FM P w K mg base _ _ _ _ _)
  obtain ⟨f_instruction_text, fd_instruction_text, g_instruction_text, F_instruction_text, b_instruction_text⟩ := T.f_instruction_text
  have C_instruction_text := (fm_instruction_text T F_instruction_text : FM P w K mg base _ _ _ _ _)
  exact fm_of F sc__law_rows fun cdv A outer s H E hc => (mss_cons (ms_parT hc.calm sc__law_rows.nd rfl rfl rfl (by decide) (by decide) (by decide) rfl rfl rfl (ma_cons (me_op os_addA me_int (me_call C__law_draw hc.tk (hc.room.mono (by decide)) rfl g__law_draw b__law_draw (ma_cons (me_v 0) (ma_cons (me_v 1) (ma_cons me_int ma_nil))))) (ma_cons (me_new 0 ma_nil) (ma_cons (me_emptyK 0) ma_nil))) (by rfl))
    (mss_cons (ms_setLc (own := [("k", 8)]) 5 hc.calm sc__law_rows.nd rfl rfl (sw_true rfl rfl rfl (by decide +kernel)) (mi_r1 rfl T.n_range (ma_cons (me_call C__law_draw hc.tk (hc.room.mono (by decide)) rfl g__law_draw b__law_draw (ma_cons (me_v 0) (ma_cons (me_v 1) (ma_cons me_int ma_nil)))) ma_nil)) (blkOk_by (N := N__law_rows) (sc := defScope s__law_rows) (by decide +kernel)) ⟨_, gs_name 8, fun _ _ _ _ _ => pg_name (i := 8) sc__law_rows.nd rfl (Or.inl rfl)⟩ (fun _ _ _ _ _ => mts_nil) (fun _ _ _ _ _ => (me_call C__law_label takes0 (hc.room.mono (by decide)) rfl g__law_label b__law_label (ma_cons (me_v 0) (ma_cons (me_v 1) (ma_cons (me_v 8) ma_nil))))))
    (mss_cons (ms_forA hc.po hc.calm (me_v 5) (mg_name 6 sc__law_rows.nd rfl (Or.inl rfl)) (mss_one (ms_setA hc.room.units (me_call C__law_draw hc.tk (hc.room.mono (by decide)) rfl g__law_draw b__law_draw (ma_cons (me_v 0) (ma_cons (me_v 1) (ma_cons (me_op os_addA (me_v 2) me_int) ma_nil)))) (me_v 4) (me_v 6))))
    (mss_cons (ms_set 7 sc__law_rows.nd rfl (Or.inl rfl) (me_new 0 ma_nil))
    (mss_cons (ms_for hc.po hc.calm (mi_r1 rfl T.n_range (ma_cons (me_op os_addA (me_v 2) me_int) ma_nil)) (mg_name 8 sc__law_rows.nd rfl (Or.inl rfl)) (mss_cons (ms_forA hc.po hc.calm (me_v 5) (mg_name 6 sc__law_rows.nd rfl (Or.inl rfl)) (mss_one (ms_if (mt_cmp (os_eqA hc.room.units) (me_item hc.room.units (me_v 4) (me_v 6)) (me_v 8) (nomark _)) (mss_one (ms_expr (me_app (me_v 7) (me_lst (ma_cons (me_op os_addA (me_v 6) me_str) ma_nil))))) mss_nil)))
    (mss_one (ms_if (mt_cmp os_ltA (me_v 8) (me_v 2) (nomark _)) (mss_cons (ms_set 9 sc__law_rows.nd rfl (Or.inl rfl) (me_call C__law_instr hc.tk (hc.room.mono (by decide)) rfl g__law_instr b__law_instr (ma_cons (me_v 0) (ma_cons (me_v 1) (ma_cons me_int ma_nil)))))
    (mss_cons (ms_set 10 sc__law_rows.nd rfl (Or.inl rfl) (me_m km_split (me_call C_instruction_text hc.tk (hc.room.mono (by decide)) rfl g_instruction_text b_instruction_text (ma_cons (me_v 9) ma_nil)) (ma_cons me_str ma_nil)))
    (mss_cons (ms_if (MW.mt (mw_and (mt_mem hc.room.units65 (me_item hc.room.units (me_v 10) me_int) (me_tup (ma_cons me_str (ma_cons me_str (ma_cons me_str (ma_cons me_str ma_nil))))) rfl) (mw_and1 (mt_cmp (os_neA hc.room.units) (me_v 5) (me_lst ma_nil) (nomark _))))) (mss_cons (ms_set 6 sc__law_rows.nd rfl (Or.inl rfl) (me_item hc.room.units (me_v 5) (me_call C__law_draw hc.tk (hc.room.mono (by decide)) rfl g__law_draw b__law_draw (ma_cons (me_v 0) (ma_cons (me_v 1) (ma_cons (me_callB ks_lenA rfl T.n_len (by decide +kernel) (ma_cons (me_v 5) ma_nil)) ma_nil))))))
    (mss_one (ms_par hc.calm sc__law_rows.nd rfl rfl (by decide) rfl rfl (ma_cons (me_op os_addA (me_sl (me_v 10) mo_none (mo_some (me_un us_neg me_int))) (me_lst (ma_cons (me_v 6) ma_nil))) (ma_cons (me_op os_addA (me_op os_sub (me_v 9) (me_op os_and (me_v 9) me_int)) (me_item hc.room.units (me_v 4) (me_v 6))) ma_nil)) (by rfl)))) mss_nil)
    (mss_cons (ms_expr (me_app (me_v 7) (me_v 10)))
    (mss_one (ms_expr (me_app (me_v 3) (me_v 9)))))))) mss_nil))))
    (mss_one (ms_ret (me_tup (ma_cons (me_v 7) (ma_cons (me_callTy ks_tuple rfl T.n_tuple (by decide +kernel) (ma_cons (me_v 3) ma_nil)) (ma_cons (me_v 4) ma_nil)))))))))))
theorem fm__law_text (T : Tx P w K mg) {f : Addr} {fd : FuncData} (F : Fun K "_law_text" "_law_text" s__law_text f fd) : FM P w K mg base 2 f fd ["state", "script", "rows"] m__law_text := by
  obtain ⟨f__law_draw, fd__law_draw, g__law_draw, F__law_draw, b__law_draw⟩ := T.f__law_draw
  have C__law_draw := (fm__law_draw T F__law_draw : FM P w K mg base _ _ _ _ _)
  exact fm_of F sc__law_text fun cdv A outer s H E hc => (mss_cons (ms_par hc.calm sc__law_text.nd rfl rfl (by decide) rfl rfl (ma_cons (me_new 0 ma_nil) (ma_cons (me_new 0 ma_nil) ma_nil)) (by rfl))
    (mss_cons (ms_forA hc.po hc.calm (me_v 2) (mg_name 5 sc__law_text.nd rfl (Or.inl rfl)) (mss_cons (ms_if (mt_cmp (os_eqA hc.room.units) (me_call C__law_draw hc.tk (hc.room.mono (by decide)) rfl g__law_draw b__law_draw (ma_cons (me_v 0) (ma_cons (me_v 1) (ma_cons me_int ma_nil)))) me_int (nomark _)) (mss_one (ms_expr (me_app (me_v 3) (me_item hc.room.units (me_lst (ma_cons me_str (ma_cons me_str (ma_cons me_str ma_nil)))) (me_call C__law_draw hc.tk (hc.room.mono (by decide)) rfl g__law_draw b__law_draw (ma_cons (me_v 0) (ma_cons (me_v 1) (ma_cons me_int ma_nil)))))))) mss_nil)
    (mss_cons (ms_expr (me_app (me_v 4) (me_callB ks_lenA rfl T.n_len (by decide +kernel) (ma_cons (me_v 3) ma_nil))))
    (mss_one (ms_expr (me_app (me_v 3) (me_op os_addA (me_op os_addA (me_item hc.room.units (me_lst (ma_cons me_str (ma_cons me_str (ma_cons me_str ma_nil)))) (me_call C__law_draw hc.tk (hc.room.mono (by decide)) rfl g__law_draw b__law_draw (ma_cons (me_v 0) (ma_cons (me_v 1) (ma_cons me_int ma_nil))))) (me_m km_join (me_item hc.room.units (me_lst (ma_cons me_str (ma_cons me_str ma_nil))) (me_call C__law_draw hc.tk (hc.room.mono (by decide)) rfl g__law_draw b__law_draw (ma_cons (me_v 0) (ma_cons (me_v 1) (ma_cons me_int ma_nil))))) (ma_cons (me_v 5) ma_nil))) (me_item hc.room.units (me_lst (ma_cons me_str (ma_cons me_str (ma_cons me_str ma_nil)))) (me_call C__law_draw hc.tk (hc.room.mono (by decide)) rfl g__law_draw b__law_draw (ma_cons (me_v 0) (ma_cons (me_v 1) (ma_cons me_int ma_nil))))))))))))
    (mss_one (ms_ret (me_tup (ma_cons (me_m km_join me_str (ma_cons (me_v 3) ma_nil)) (ma_cons (me_v 4) ma_nil)))))))
theorem fm__law_bent (T : Tx P w K mg) {f : Addr} {fd : FuncData} (F : Fun K "_law_bent" "_law_bent" s__law_bent f fd) : FM P w K mg base 2 f fd ["state", "script", "rows", "places"] m__law_bent := by
  obtain ⟨f__law_draw, fd__law_draw, g__law_draw, F__law_draw, b__law_draw⟩ := T.f__law_draw
  have C__law_draw := (fm__law_draw T F__law_draw : FM P w K mg base _ _ _ _ _)
  exact fm_of F sc__law_bent fun cdv A outer s H E hc => (mss_cons (ms_set 4 sc__law_bent.nd rfl (Or.inl rfl) (me_call C__law_draw hc.tk (hc.room.mono (by decide)) rfl g__law_draw b__law_draw (ma_cons (me_v 0) (ma_cons (me_v 1) (ma_cons (me_callB ks_lenA rfl T.n_len (by decide +kernel) (ma_cons (me_v 2) ma_nil)) ma_nil)))))
    (mss_cons (ms_par hc.calm sc__law_bent.nd rfl rfl (by decide) rfl rfl (ma_cons (me_item hc.room.units (me_v 2) (me_v 4)) (ma_cons (me_call C__law_draw hc.tk (hc.room.mono (by decide)) rfl g__law_draw b__law_draw (ma_cons (me_v 0) (ma_cons (me_v 1) (ma_cons me_int ma_nil)))) ma_nil)) (by rfl))
    (mss_cons (ms_if (mt_cmp (os_eqA hc.room.units) (me_sl (me_item hc.room.units (me_v 5) me_int) (mo_some (me_un us_neg me_int)) mo_none) me_str (nomark _)) (mss_one (ms_ret (me_item hc.room.units (me_lst (ma_cons (me_tup (ma_cons (me_op os_addA (me_op os_addA (me_sl (me_v 2) mo_none (mo_some (me_v 4))) (me_lst (ma_cons (me_lst (ma_cons (me_op os_addA me_str (me_item hc.room.units (me_v 5) me_int)) ma_nil)) ma_nil))) (me_sl (me_v 2) (mo_some (me_op os_addA (me_v 4) me_int)) mo_none)) (ma_cons (me_tup (ma_cons (me_v 4) (ma_cons me_int ma_nil))) ma_nil))) (ma_cons (me_tup (ma_cons (me_op os_addA (me_v 2) (me_lst (ma_cons (me_v 5) ma_nil))) (ma_cons (me_tup (ma_cons (me_callB ks_lenA rfl T.n_len (by decide +kernel) (ma_cons (me_v 2) ma_nil)) (ma_cons me_int ma_nil))) ma_nil))) ma_nil))) (me_call C__law_draw hc.tk (hc.room.mono (by decide)) rfl g__law_draw b__law_draw (ma_cons (me_v 0) (ma_cons (me_v 1) (ma_cons me_int ma_nil))))))) mss_nil)
    (mss_cons (ms_if (mt_cmp (os_eqA hc.room.units) (me_v 6) me_int (nomark _)) (mss_one (ms_ret (me_tup (ma_cons (me_op os_addA (me_op os_addA (me_sl (me_v 2) mo_none (mo_some (me_v 4))) (me_lst (ma_cons (me_op os_addA (me_lst (ma_cons me_str ma_nil)) (me_sl (me_v 5) (mo_some me_int) mo_none)) ma_nil))) (me_sl (me_v 2) (mo_some (me_op os_addA (me_v 4) me_int)) mo_none)) (ma_cons (me_tup (ma_cons (me_v 4) (ma_cons me_int ma_nil))) ma_nil))))) mss_nil)
    (mss_cons (ms_if (mt_cmp (os_eqA hc.room.units) (me_v 6) me_int (nomark _)) (mss_one (ms_ret (me_tup (ma_cons (me_op os_addA (me_op os_addA (me_sl (me_v 2) mo_none (mo_some (me_v 4))) (me_lst (ma_cons (me_op os_addA (me_v 5) (me_lst (ma_cons me_str ma_nil))) ma_nil))) (me_sl (me_v 2) (mo_some (me_op os_addA (me_v 4) me_int)) mo_none)) (ma_cons (me_tup (ma_cons (me_v 4) (ma_cons (me_callB ks_lenA rfl T.n_len (by decide +kernel) (ma_cons (me_v 5) ma_nil)) ma_nil))) ma_nil))))) mss_nil)
    (mss_cons (ms_if (MW.mt (mw_and (mt_cmp (os_eqA hc.room.units) (me_v 6) me_int (nomark _)) (mw_and1 (mt_cmp os_gtA (me_callB ks_lenA rfl T.n_len (by decide +kernel) (ma_cons (me_v 5) ma_nil)) me_int (nomark _))))) (mss_one (ms_ret (me_tup (ma_cons (me_op os_addA (me_op os_addA (me_sl (me_v 2) mo_none (mo_some (me_v 4))) (me_lst (ma_cons (me_sl (me_v 5) mo_none (mo_some (me_un us_neg me_int))) ma_nil))) (me_sl (me_v 2) (mo_some (me_op os_addA (me_v 4) me_int)) mo_none)) (ma_cons (me_tup (ma_cons (me_v 4) (ma_cons (me_op os_sub (me_callB ks_lenA rfl T.n_len (by decide +kernel) (ma_cons (me_v 5) ma_nil)) me_int) ma_nil))) ma_nil))))) mss_nil)
    (mss_cons (ms_if (MW.mt (mw_and (mt_cmp (os_eqA hc.room.units) (me_v 6) me_int (nomark _)) (mw_and1 (mt_cmp os_gtA (me_callB ks_lenA rfl T.n_len (by decide +kernel) (ma_cons (me_v 5) ma_nil)) me_int (nomark _))))) (mss_cons (ms_set 7 sc__law_bent.nd rfl (Or.inl rfl) (me_op os_addA me_int (me_call C__law_draw hc.tk (hc.room.mono (by decide)) rfl g__law_draw b__law_draw (ma_cons (me_v 0) (ma_cons (me_v 1) (ma_cons (me_op os_sub (me_callB ks_lenA rfl T.n_len (by decide +kernel) (ma_cons (me_v 5) ma_nil)) me_int) ma_nil))))))
    (mss_cons (ms_set 8 sc__law_bent.nd rfl (Or.inl rfl) (me_item hc.room.units (me_lst (ma_cons me_str (ma_cons me_str (ma_cons me_str (ma_cons me_str (ma_cons me_str (ma_cons me_str (ma_cons me_str ma_nil)))))))) (me_call C__law_draw hc.tk (hc.room.mono (by decide)) rfl g__law_draw b__law_draw (ma_cons (me_v 0) (ma_cons (me_v 1) (ma_cons me_int ma_nil))))))
    (mss_cons (ms_set 9 sc__law_bent.nd rfl (Or.inl rfl) (me_op os_addA (me_op os_addA (me_sl (me_v 5) mo_none (mo_some (me_v 7))) (me_lst (ma_cons (me_op os_addA (me_item hc.room.units (me_m km_split (me_v 8) (ma_cons me_str ma_nil)) me_int) me_str) ma_nil))) (me_sl (me_v 5) (mo_some (me_op os_addA (me_v 7) me_int)) mo_none)))
    (mss_one (ms_ret (me_tup (ma_cons (me_op os_addA (me_op os_addA (me_sl (me_v 2) mo_none (mo_some (me_v 4))) (me_lst (ma_cons (me_v 9) ma_nil))) (me_sl (me_v 2) (mo_some (me_op os_addA (me_v 4) me_int)) mo_none)) (ma_cons (me_tup (ma_cons (me_v 4) (ma_cons (me_v 7) ma_nil))) ma_nil)))))))) mss_nil)
    (mss_one (ms_ret (me_tup (ma_cons (me_op os_addA (me_v 2) (me_lst (ma_cons (me_lst (ma_cons me_str (ma_cons me_str ma_nil))) ma_nil))) (ma_cons (me_tup (ma_cons (me_callB ks_lenA rfl T.n_len (by decide +kernel) (ma_cons (me_v 2) ma_nil)) (ma_cons me_int ma_nil))) ma_nil))))))))))))
theorem fm_law (T : Tx P w K mg) {f : Addr} {fd : FuncData} (F : Fun K "law" "law" s_law f fd) : FM P w K mg base 12 f fd ["script"] m_law := by
  obtain ⟨f__law_rows, fd__law_rows, g__law_rows, F__law_rows, b__law_rows⟩ := T.f__law_rows
  have C__law_rows := (fm__law_rows T F__law_rows : FM P w K mg base _ _ _ _ _)
  obtain ⟨f__law_text, fd__law_text, g__law_text, F__law_text, b__law_text⟩ := T.f__law_text
  have C__law_text := (fm__law_text T F__law_text : FM P w K mg base _ _ _ _ _)
  obtain ⟨f__law_bent, fd__law_bent, g__law_bent, F__law_bent, b__law_bent⟩ := T.f__law_bent
  have C__law_bent := (fm__law_bent T F__law_bent : FM P w K mg base _ _ _ _ _)
  obtain ⟨f__law_asked, fd__law_asked, g__law_asked, F__law_asked, b__law_asked⟩ := T.f__law_asked
  have C__law_asked := (fm__law_asked T F__law_asked : FM P w K mg base _ _ _ _ _)
  obtain ⟨f_code_labels, fd_code_labels, g_code_labels, F_code_labels, b_code_labels⟩ := T.f_code_labels
  have C_code_labels := (fm_code_labels T F_code_labels : FM P w K mg base _ _ _ _ _)
  obtain ⟨f_is_label, fd_is_label, g_is_label, F_is_label, b_is_label⟩ := T.f_is_label
  have C_is_label := (fm_is_label T F_is_label : FM P w K mg base _ _ _ _ _)
  exact fm_of F sc_law fun cdv A outer s H E hc => (mss_cons (ms_set 1 sc_law.nd rfl (Or.inl rfl) (me_new 0 (ma_cons me_int (ma_cons me_int ma_nil))))
    (mss_cons (ms_asg (me_call C__law_rows hc.tk (hc.room.mono (by decide)) rfl g__law_rows b__law_rows (ma_cons (me_v 1) (ma_cons (me_v 0) ma_nil))) (mg_tup hc.calm (mgs_cons (mg_name 2 sc_law.nd rfl (Or.inl rfl)) (mgs_cons (mg_name 3 sc_law.nd rfl (Or.inl rfl)) (mgs_cons (mg_name 4 sc_law.nd rfl (Or.inl rfl)) mgs_nil)))))
    (mss_cons (ms_asg (me_call C__law_text hc.tk (hc.room.mono (by decide)) rfl g__law_text b__law_text (ma_cons (me_v 1) (ma_cons (me_v 0) (ma_cons (me_v 2) ma_nil)))) (mg_tup hc.calm (mgs_cons (mg_name 5 sc_law.nd rfl (Or.inl rfl)) (mgs_cons (mg_name 6 sc_law.nd rfl (Or.inl rfl)) mgs_nil))))
    (mss_cons (ms_if (MW.mt (mw_or (mt_cmp (os_neX hc.room.units) (me_call C__law_asked hc.tk (hc.room.mono (by decide)) rfl g__law_asked b__law_asked (ma_cons (me_v 5) ma_nil)) (me_v 3) (nomark _)) (mw_or1 (mt_cmp (os_neX hc.room.units) (me_call C_code_labels hc.tk (hc.room.mono (by decide)) rfl g_code_labels b_code_labels (ma_cons (me_v 5) ma_nil)) (me_v 4) (nomark _))))) (mss_one (ms_ret me_bl)) mss_nil)
    (mss_cons (ms_for hc.po hc.calm (mi_r1 rfl T.n_range (ma_cons me_int ma_nil)) (mg_name 7 sc_law.nd rfl (Or.inl rfl)) (mss_cons (ms_asg (me_call C__law_bent hc.tk (hc.room.mono (by decide)) rfl g__law_bent b__law_bent (ma_cons (me_v 1) (ma_cons (me_v 0) (ma_cons (me_v 2) (ma_cons (me_v 4) ma_nil))))) (mg_tup hc.calm (mgs_cons (mg_name 8 sc_law.nd rfl (Or.inr rfl)) (mgs_cons (mg_name 9 sc_law.nd rfl (Or.inl rfl)) mgs_nil))))
    (mss_cons (ms_asg (me_call C__law_text hc.tk (hc.room.mono (by decide)) rfl g__law_text b__law_text (ma_cons (me_v 1) (ma_cons (me_v 0) (ma_cons (me_v 8) ma_nil)))) (mg_tup hc.calm (mgs_cons (mg_name 5 sc_law.nd rfl (Or.inl rfl)) (mgs_cons (mg_name 6 sc_law.nd rfl (Or.inl rfl)) mgs_nil))))
    (mss_one (ms_if (mt_cmp (os_neX hc.room.units) (me_v 8) (me_v 2) (nomark _)) (mss_cons (ms_set 10 sc_law.nd rfl (Or.inl rfl) (me_call C__law_asked hc.tk (hc.room.mono (by decide)) rfl g__law_asked b__law_asked (ma_cons (me_v 5) ma_nil)))
    (mss_cons (ms_set 11 sc_law.nd rfl (Or.inl rfl) (me_tup (ma_cons me_str (ma_cons (me_tup (ma_cons (me_item hc.room.units (me_v 6) (me_item hc.room.units (me_v 9) me_int)) (ma_cons (me_item hc.room.units (me_v 9) me_int) ma_nil))) ma_nil))))
    (mss_cons (ms_setLc (own := [("words", 19)]) 12 hc.calm sc_law.nd rfl rfl (sw_true rfl rfl rfl (by decide +kernel)) (mi_it (me_v 2)) (blkOk_by (N := N_law) (sc := defScope s_law) (by decide +kernel)) ⟨_, gs_name 19, fun _ _ _ _ _ => pg_name (i := 19) sc_law.nd rfl (Or.inl rfl)⟩ (fun _ _ _ _ _ => (mts_one (MW.mt (mw_and (mt_notMem hc.room.units65 (me_v 19) (me_v 8) rfl) (mw_and1 (mt_cmp (os_eqA hc.room.units) (me_sl (me_item hc.room.units (me_v 19) me_int) (mo_some (me_un us_neg me_int)) mo_none) me_str (nomark _))))))) (fun _ _ _ _ _ => (me_sl (me_item hc.room.units (me_v 19) me_int) mo_none (mo_some (me_un us_neg me_int)))))
    (mss_cons (ms_set 13 sc_law.nd rfl (Or.inl rfl) (me_lst ma_nil))
    (mss_cons (ms_for hc.po hc.calm (mi_r1 rfl T.n_range (ma_cons (me_callB ks_lenA rfl T.n_len (by decide +kernel) (ma_cons (me_v 8) ma_nil)) ma_nil)) (mg_name 14 sc_law.nd rfl (Or.inl rfl)) (mss_one (ms_if (MW.mt (mw_and (mt_cmp (os_neX hc.room.units) (me_v 12) (me_lst ma_nil) (nomark _)) (mw_and (mt_cmp os_gtA (me_callB ks_lenA rfl T.n_len (by decide +kernel) (ma_cons (me_item hc.room.units (me_v 8) (me_v 14)) ma_nil)) me_int (nomark _)) (mw_and1 (mt_mem hc.room.units65 (me_item hc.room.units (me_item hc.room.units (me_v 8) (me_v 14)) (me_un us_neg me_int)) (me_v 12) rfl))))) (mss_one (ms_set 13 sc_law.nd rfl (Or.inl rfl) (me_op os_addA (me_v 13) (me_lst (ma_cons (me_tup (ma_cons (me_v 14) (ma_cons (me_op os_sub (me_callB ks_lenA rfl T.n_len (by decide +kernel) (ma_cons (me_item hc.room.units (me_v 8) (me_v 14)) ma_nil)) me_int) ma_nil))) ma_nil))))) mss_nil)))
    (mss_cons (ms_if (MW.mt (mw_and (mt_cmp (os_neX hc.room.units) (me_v 13) (me_lst ma_nil) (nomark _)) (mw_and1 (mt_cmp (os_ltX hc.room.units) (me_item hc.room.units (me_v 13) me_int) (me_v 9) (nomark _))))) (mss_one (ms_set 11 sc_law.nd rfl (Or.inl rfl) (me_tup (ma_cons me_str (ma_cons (me_tup (ma_cons (me_item hc.room.units (me_v 6) (me_item hc.room.units (me_item hc.room.units (me_v 13) me_int) me_int)) (ma_cons (me_item hc.room.units (me_item hc.room.units (me_v 13) me_int) me_int) ma_nil))) ma_nil))))) mss_nil)
    (mss_one (ms_if (mt_cmp (os_neX hc.room.units) (me_v 10) (me_v 11) (nomark _)) (mss_one (ms_ret me_bl)) mss_nil)))))))) mss_nil)))))
    (mss_cons (ms_set 15 sc_law.nd rfl (Or.inl rfl) (me_lst (ma_cons me_str (ma_cons me_str (ma_cons me_str (ma_cons me_str ma_nil))))))
    (mss_cons (ms_set 16 sc_law.nd rfl (Or.inl rfl) (me_lst (ma_cons me_non (ma_cons me_str (ma_cons me_str (ma_cons me_str (ma_cons me_str (ma_cons me_str (ma_cons me_str (ma_cons me_int (ma_cons me_bl (ma_cons me_str ma_nil))))))))))))
    (mss_cons (ms_if (mt_cmp (os_neX hc.room.units) (me_lc (own := [("one", 18)]) hc.calm sc_law.nd (mi_it (me_op os_addA (me_v 15) (me_v 16))) (blkOk_by (N := N_law) (sc := defScope s_law) (by decide +kernel)) ⟨_, gs_name 18, fun _ _ _ _ _ => pg_name (i := 18) sc_law.nd rfl (Or.inl rfl)⟩ (fun _ _ _ _ _ => mts_nil) (fun _ _ _ _ _ => (me_call C_is_label takes0 (hc.room.mono (by decide)) rfl g_is_label b_is_label (ma_cons (me_v 18) ma_nil)))) (me_op os_addA (me_op os_mulX (me_lst (ma_cons me_bl ma_nil)) me_int) (me_op os_mulX (me_lst (ma_cons me_bl ma_nil)) me_int)) (nomark _)) (mss_one (ms_ret me_bl)) mss_nil)
    (mss_cons (ms_set 17 sc_law.nd rfl (Or.inl rfl) (me_op os_mulX me_str me_int))
    (mss_cons (ms_if (MW.mt (mw_or (mt_cmp (os_neX hc.room.units) (me_callB ks_lenA rfl T.n_len (by decide +kernel) (ma_cons (me_call C__law_asked hc.tk (hc.room.mono (by decide)) rfl g__law_asked b__law_asked (ma_cons (me_v 17) ma_nil)) ma_nil)) me_int (nomark _)) (mw_or (mt_cmp (os_neX hc.room.units) (me_call C__law_asked hc.tk (hc.room.mono (by decide)) rfl g__law_asked b__law_asked (ma_cons (me_op os_addA (me_v 17) me_str) ma_nil)) (me_tup (ma_cons me_str (ma_cons (me_tup (ma_cons me_int (ma_cons me_int ma_nil))) ma_nil))) (nomark _)) (mw_or (mt_cmp (os_neX hc.room.units) (me_call C__law_asked hc.tk (hc.room.mono (by decide)) rfl g__law_asked b__law_asked (ma_cons (me_op os_addA (me_v 17) me_str) ma_nil)) (me_tup (ma_cons me_str (ma_cons (me_tup (ma_cons me_int (ma_cons me_int ma_nil))) ma_nil))) (nomark _)) (mw_or1 (mt_cmp (os_neX hc.room.units) (me_call C__law_asked hc.tk (hc.room.mono (by decide)) rfl g__law_asked b__law_asked (ma_cons (me_op os_addA (me_op os_mulX me_str me_int) me_str) ma_nil)) (me_op os_mulX (me_tup (ma_cons (me_op os_shl me_int me_int) ma_nil)) me_int) (nomark _))))))) (mss_one (ms_ret me_bl)) mss_nil)
    (mss_cons (ms_if (mt_cmp (os_neX hc.room.units) (me_call C__law_asked hc.tk (hc.room.mono (by decide)) rfl g__law_asked b__law_asked (ma_cons (me_op os_addA (me_op os_addA me_str (me_op os_mulX me_str me_int)) me_str) ma_nil)) (me_tup (ma_cons me_str (ma_cons (me_tup (ma_cons me_int (ma_cons me_int ma_nil))) ma_nil))) (nomark _)) (mss_one (ms_ret me_bl)) mss_nil)
    (mss_one (ms_ret (me_and (me_cmp (os_eqA hc.room.units) (me_call C__law_asked hc.tk (hc.room.mono (by decide)) rfl g__law_asked b__law_asked (ma_cons me_str ma_nil)) (me_tup ma_nil) (nomark _)) (me_and (me_cmp (os_eqA hc.room.units) (me_call C__law_asked hc.tk (hc.room.mono (by decide)) rfl g__law_asked b__law_asked (ma_cons me_str ma_nil)) (me_tup ma_nil) (nomark _)) (me_and (me_cmp (os_eqA hc.room.units) (me_call C__law_asked hc.tk (hc.room.mono (by decide)) rfl g__law_asked b__law_asked (ma_cons me_str ma_nil)) (me_tup (ma_cons me_str (ma_cons (me_tup (ma_cons me_int (ma_cons me_int ma_nil))) ma_nil))) (nomark _)) (me_one (me_cmp (os_eqA hc.room.units) (me_call C__law_asked hc.tk (hc.room.mono (by decide)) rfl g__law_asked b__law_asked (ma_cons me_str ma_nil)) (me_tup (ma_cons (me_op os_or (me_op os_shl me_int me_int) me_int) ma_nil)) (nomark _)))))))))))))))))))
end
end K26

namespace K26
open MP PySem PySem.Spec PyProof.Rows L2
theorem all_mk {l : PySem.W.OpenLaw} {w : World} {K : PySem.W.Frag} {h : Heap} {mg : Str → Option Value} {fa : Addr} (X : K.In h) (G : h.Ns mainGlobals mg) (hfa : mg "law" = some (.ref fa))
    {f0 : Addr} {od0 an0 : Option Addr} {sl0 : Array (Option Value)} {oc0 kV0 dc0 pm0 cd0 ct0 : Value}
    {f1 : Addr} {od1 an1 : Option Addr} {sl1 : Array (Option Value)} {oc1 kV1 dc1 pm1 cd1 ct1 : Value}
    {f2 : Addr} {od2 an2 : Option Addr} {sl2 : Array (Option Value)} {oc2 kV2 dc2 pm2 cd2 ct2 : Value}
    {f3 : Addr} {od3 an3 : Option Addr} {sl3 : Array (Option Value)} {oc3 kV3 dc3 pm3 cd3 ct3 : Value}
    {f4 : Addr} {od4 an4 : Option Addr} {sl4 : Array (Option Value)} {oc4 kV4 dc4 pm4 cd4 ct4 : Value}
    {f5 : Addr} {od5 an5 : Option Addr} {sl5 : Array (Option Value)} {oc5 kV5 dc5 pm5 cd5 ct5 : Value}
    {f6 : Addr} {od6 an6 : Option Addr} {sl6 : Array (Option Value)} {oc6 kV6 dc6 pm6 cd6 ct6 : Value}
    {f7 : Addr} {od7 an7 : Option Addr} {sl7 : Array (Option Value)} {oc7 kV7 dc7 pm7 cd7 ct7 : Value}
    {f8 : Addr} {od8 an8 : Option Addr} {sl8 : Array (Option Value)} {oc8 kV8 dc8 pm8 cd8 ct8 : Value}
    {f9 : Addr} {od9 an9 : Option Addr} {sl9 : Array (Option Value)} {oc9 kV9 dc9 pm9 cd9 ct9 : Value}
    {f10 : Addr} {od10 an10 : Option Addr} {sl10 : Array (Option Value)} {oc10 kV10 dc10 pm10 cd10 ct10 : Value}
    {f11 : Addr} {od11 an11 : Option Addr} {sl11 : Array (Option Value)} {oc11 kV11 dc11 pm11 cd11 ct11 : Value}
    {f12 : Addr} {od12 an12 : Option Addr} {sl12 : Array (Option Value)} {oc12 kV12 dc12 pm12 cd12 ct12 : Value}
    {f13 : Addr} {od13 an13 : Option Addr} {sl13 : Array (Option Value)} {oc13 kV13 dc13 pm13 cd13 ct13 : Value}
    {f14 : Addr} {od14 an14 : Option Addr} {sl14 : Array (Option Value)} {oc14 kV14 dc14 pm14 cd14 ct14 : Value}
    {f15 : Addr} {od15 an15 : Option Addr} {sl15 : Array (Option Value)} {oc15 kV15 dc15 pm15 cd15 ct15 : Value}
    {f16 : Addr} {od16 an16 : Option Addr} {sl16 : Array (Option Value)} {oc16 kV16 dc16 pm16 cd16 ct16 : Value}
    {f17 : Addr} {od17 an17 : Option Addr} {sl17 : Array (Option Value)} {oc17 kV17 dc17 pm17 cd17 ct17 : Value}
    {f18 : Addr} {od18 an18 : Option Addr} {sl18 : Array (Option Value)} {oc18 kV18 dc18 pm18 cd18 ct18 : Value}
    {f19 : Addr} {od19 an19 : Option Addr} {sl19 : Array (Option Value)} {oc19 kV19 dc19 pm19 cd19 ct19 : Value}
    {f20 : Addr} {od20 an20 : Option Addr} {sl20 : Array (Option Value)} {oc20 kV20 dc20 pm20 cd20 ct20 : Value}
    {f21 : Addr} {od21 an21 : Option Addr} {sl21 : Array (Option Value)} {oc21 kV21 dc21 pm21 cd21 ct21 : Value}
    {f22 : Addr} {od22 an22 : Option Addr} {sl22 : Array (Option Value)} {oc22 kV22 dc22 pm22 cd22 ct22 : Value}
    {cv0 : Value}
    {cv1 : Value}
    {cv2 : Value}
    {cv3 : Value}
    {cv4 : Value}
    {tu0 : Addr} {tv0 : Array Value} {tw0 : Nat} {tz0 : Array (Option Value)}
    {ta0 : Addr} {te0 : Array DictEntry} {tn0 : Nat}
    {eC0 ef0 ua0 ub0 : Addr} {eod0 ean0 eo20 eo30 : Option Addr} {esl0 es20 es30 : Array (Option Value)} {ekV0 edc0 epm0 ect0 eoc0 eol0 : Value} {evs0 : Array Value} {etf0 : Tok}
    {eC1 ef1 ua1 ub1 : Addr} {eod1 ean1 eo21 eo31 : Option Addr} {esl1 es21 es31 : Array (Option Value)} {ekV1 edc1 epm1 ect1 eoc1 eol1 : Value} {evs1 : Array Value} {etf1 : Tok}
    {eC2 ef2 ua2 ub2 : Addr} {eod2 ean2 eo22 eo32 : Option Addr} {esl2 es22 es32 : Array (Option Value)} {ekV2 edc2 epm2 ect2 eoc2 eol2 : Value} {evs2 : Array Value} {etf2 : Tok}
    (a0 : PySem.W.nsIn K mainGlobals "is_count" = some (some (.ref f0)))
    (l0 : K.lookup f0 = some ⟨oc0, od0, .func (PySem.W.fnOf "is_count" "is_count" (defArgs s_is_count) (defBody s_is_count) (defScope s_is_count) .none kV0 dc0 pm0 an0 cd0 ct0), sl0⟩)
    (c0 : PySem.W.codeIn K cd0 "is_count" = true)
    (k0 : PySem.W.keepIn K (.ref f0) = true)
    (a1 : PySem.W.nsIn K mainGlobals "instruction" = some (some (.ref f1)))
    (l1 : K.lookup f1 = some ⟨oc1, od1, .func (PySem.W.fnOf "instruction" "instruction" (defArgs s_instruction) (defBody s_instruction) (defScope s_instruction) .none kV1 dc1 pm1 an1 cd1 ct1), sl1⟩)
    (c1 : PySem.W.codeIn K cd1 "instruction" = true)
    (k1 : PySem.W.keepIn K (.ref f1) = true)
    (a2 : PySem.W.nsIn K mainGlobals "is_instruction" = some (some (.ref f2)))
    (l2 : K.lookup f2 = some ⟨oc2, od2, .func (PySem.W.fnOf "is_instruction" "is_instruction" (defArgs s_is_instruction) (defBody s_is_instruction) (defScope s_is_instruction) .none kV2 dc2 pm2 an2 cd2 ct2), sl2⟩)
    (c2 : PySem.W.codeIn K cd2 "is_instruction" = true)
    (k2 : PySem.W.keepIn K (.ref f2) = true)
    (a3 : PySem.W.nsIn K mainGlobals "check_instruction" = some (some (.ref f3)))
    (l3 : K.lookup f3 = some ⟨oc3, od3, .func (PySem.W.fnOf "check_instruction" "check_instruction" (defArgs s_check_instruction) (defBody s_check_instruction) (defScope s_check_instruction) .none kV3 dc3 pm3 an3 cd3 ct3), sl3⟩)
    (c3 : PySem.W.codeIn K cd3 "check_instruction" = true)
    (k3 : PySem.W.keepIn K (.ref f3) = true)
    (a4 : PySem.W.nsIn K mainGlobals "parts_of" = some (some (.ref f4)))
    (l4 : K.lookup f4 = some ⟨oc4, od4, .func (PySem.W.fnOf "parts_of" "parts_of" (defArgs s_parts_of) (defBody s_parts_of) (defScope s_parts_of) .none kV4 dc4 pm4 an4 cd4 ct4), sl4⟩)
    (c4 : PySem.W.codeIn K cd4 "parts_of" = true)
    (k4 : PySem.W.keepIn K (.ref f4) = true)
    (a5 : PySem.W.nsIn K mainGlobals "form_of" = some (some (.ref f5)))
    (l5 : K.lookup f5 = some ⟨oc5, od5, .func (PySem.W.fnOf "form_of" "form_of" (defArgs s_form_of) (defBody s_form_of) (defScope s_form_of) .none kV5 dc5 pm5 an5 cd5 ct5), sl5⟩)
    (c5 : PySem.W.codeIn K cd5 "form_of" = true)
    (k5 : PySem.W.keepIn K (.ref f5) = true)
    (a6 : PySem.W.nsIn K mainGlobals "instruction_text" = some (some (.ref f6)))
    (l6 : K.lookup f6 = some ⟨oc6, od6, .func (PySem.W.fnOf "instruction_text" "instruction_text" (defArgs s_instruction_text) (defBody s_instruction_text) (defScope s_instruction_text) .none kV6 dc6 pm6 an6 cd6 ct6), sl6⟩)
    (c6 : PySem.W.codeIn K cd6 "instruction_text" = true)
    (k6 : PySem.W.keepIn K (.ref f6) = true)
    (a7 : PySem.W.nsIn K mainGlobals "is_label" = some (some (.ref f7)))
    (l7 : K.lookup f7 = some ⟨oc7, od7, .func (PySem.W.fnOf "is_label" "is_label" (defArgs s_is_label) (defBody s_is_label) (defScope s_is_label) .none kV7 dc7 pm7 an7 cd7 ct7), sl7⟩)
    (c7 : PySem.W.codeIn K cd7 "is_label" = true)
    (k7 : PySem.W.keepIn K (.ref f7) = true)
    (a8 : PySem.W.nsIn K mainGlobals "code_rows" = some (some (.ref f8)))
    (l8 : K.lookup f8 = some ⟨oc8, od8, .func (PySem.W.fnOf "code_rows" "code_rows" (defArgs s_code_rows) (defBody s_code_rows) (defScope s_code_rows) .none kV8 dc8 pm8 an8 cd8 ct8), sl8⟩)
    (c8 : PySem.W.codeIn K cd8 "code_rows" = true)
    (k8 : PySem.W.keepIn K (.ref f8) = true)
    (a9 : PySem.W.nsIn K mainGlobals "is_label_row" = some (some (.ref f9)))
    (l9 : K.lookup f9 = some ⟨oc9, od9, .func (PySem.W.fnOf "is_label_row" "is_label_row" (defArgs s_is_label_row) (defBody s_is_label_row) (defScope s_is_label_row) .none kV9 dc9 pm9 an9 cd9 ct9), sl9⟩)
    (c9 : PySem.W.codeIn K cd9 "is_label_row" = true)
    (k9 : PySem.W.keepIn K (.ref f9) = true)
    (a10 : PySem.W.nsIn K mainGlobals "number_below" = some (some (.ref f10)))
    (l10 : K.lookup f10 = some ⟨oc10, od10, .func (PySem.W.fnOf "number_below" "number_below" (defArgs s_number_below) (defBody s_number_below) (defScope s_number_below) .none kV10 dc10 pm10 an10 cd10 ct10), sl10⟩)
    (c10 : PySem.W.codeIn K cd10 "number_below" = true)
    (k10 : PySem.W.keepIn K (.ref f10) = true)
    (a11 : PySem.W.nsIn K mainGlobals "part_told" = some (some (.ref f11)))
    (l11 : K.lookup f11 = some ⟨oc11, od11, .func (PySem.W.fnOf "part_told" "part_told" (defArgs s_part_told) (defBody s_part_told) (defScope s_part_told) .none kV11 dc11 pm11 an11 cd11 ct11), sl11⟩)
    (c11 : PySem.W.codeIn K cd11 "part_told" = true)
    (k11 : PySem.W.keepIn K (.ref f11) = true)
    (a12 : PySem.W.nsIn K mainGlobals "row_told" = some (some (.ref f12)))
    (l12 : K.lookup f12 = some ⟨oc12, od12, .func (PySem.W.fnOf "row_told" "row_told" (defArgs s_row_told) (defBody s_row_told) (defScope s_row_told) .none kV12 dc12 pm12 an12 cd12 ct12), sl12⟩)
    (c12 : PySem.W.codeIn K cd12 "row_told" = true)
    (k12 : PySem.W.keepIn K (.ref f12) = true)
    (a13 : PySem.W.nsIn K mainGlobals "code_labels" = some (some (.ref f13)))
    (l13 : K.lookup f13 = some ⟨oc13, od13, .func (PySem.W.fnOf "code_labels" "code_labels" (defArgs s_code_labels) (defBody s_code_labels) (defScope s_code_labels) .none kV13 dc13 pm13 an13 cd13 ct13), sl13⟩)
    (c13 : PySem.W.codeIn K cd13 "code_labels" = true)
    (k13 : PySem.W.keepIn K (.ref f13) = true)
    (a14 : PySem.W.nsIn K mainGlobals "read_code" = some (some (.ref f14)))
    (l14 : K.lookup f14 = some ⟨oc14, od14, .func (PySem.W.fnOf "read_code" "read_code" (defArgs s_read_code) (defBody s_read_code) (defScope s_read_code) .none kV14 dc14 pm14 an14 cd14 ct14), sl14⟩)
    (c14 : PySem.W.codeIn K cd14 "read_code" = true)
    (k14 : PySem.W.keepIn K (.ref f14) = true)
    (a15 : PySem.W.nsIn K mainGlobals "_law_draw" = some (some (.ref f15)))
    (l15 : K.lookup f15 = some ⟨oc15, od15, .func (PySem.W.fnOf "_law_draw" "_law_draw" (defArgs s__law_draw) (defBody s__law_draw) (defScope s__law_draw) .none kV15 dc15 pm15 an15 cd15 ct15), sl15⟩)
    (c15 : PySem.W.codeIn K cd15 "_law_draw" = true)
    (k15 : PySem.W.keepIn K (.ref f15) = true)
    (a16 : PySem.W.nsIn K mainGlobals "_law_instr" = some (some (.ref f16)))
    (l16 : K.lookup f16 = some ⟨oc16, od16, .func (PySem.W.fnOf "_law_instr" "_law_instr" (defArgs s__law_instr) (defBody s__law_instr) (defScope s__law_instr) .none kV16 dc16 pm16 an16 cd16 ct16), sl16⟩)
    (c16 : PySem.W.codeIn K cd16 "_law_instr" = true)
    (k16 : PySem.W.keepIn K (.ref f16) = true)
    (a17 : PySem.W.nsIn K mainGlobals "_law_asked" = some (some (.ref f17)))
    (l17 : K.lookup f17 = some ⟨oc17, od17, .func (PySem.W.fnOf "_law_asked" "_law_asked" (defArgs s__law_asked) (defBody s__law_asked) (defScope s__law_asked) .none kV17 dc17 pm17 an17 cd17 ct17), sl17⟩)
    (c17 : PySem.W.codeIn K cd17 "_law_asked" = true)
    (k17 : PySem.W.keepIn K (.ref f17) = true)
    (a18 : PySem.W.nsIn K mainGlobals "_law_label" = some (some (.ref f18)))
    (l18 : K.lookup f18 = some ⟨oc18, od18, .func (PySem.W.fnOf "_law_label" "_law_label" (defArgs s__law_label) (defBody s__law_label) (defScope s__law_label) .none kV18 dc18 pm18 an18 cd18 ct18), sl18⟩)
    (c18 : PySem.W.codeIn K cd18 "_law_label" = true)
    (k18 : PySem.W.keepIn K (.ref f18) = true)
    (a19 : PySem.W.nsIn K mainGlobals "_law_rows" = some (some (.ref f19)))
    (l19 : K.lookup f19 = some ⟨oc19, od19, .func (PySem.W.fnOf "_law_rows" "_law_rows" (defArgs s__law_rows) (defBody s__law_rows) (defScope s__law_rows) .none kV19 dc19 pm19 an19 cd19 ct19), sl19⟩)
    (c19 : PySem.W.codeIn K cd19 "_law_rows" = true)
    (k19 : PySem.W.keepIn K (.ref f19) = true)
    (a20 : PySem.W.nsIn K mainGlobals "_law_text" = some (some (.ref f20)))
    (l20 : K.lookup f20 = some ⟨oc20, od20, .func (PySem.W.fnOf "_law_text" "_law_text" (defArgs s__law_text) (defBody s__law_text) (defScope s__law_text) .none kV20 dc20 pm20 an20 cd20 ct20), sl20⟩)
    (c20 : PySem.W.codeIn K cd20 "_law_text" = true)
    (k20 : PySem.W.keepIn K (.ref f20) = true)
    (a21 : PySem.W.nsIn K mainGlobals "_law_bent" = some (some (.ref f21)))
    (l21 : K.lookup f21 = some ⟨oc21, od21, .func (PySem.W.fnOf "_law_bent" "_law_bent" (defArgs s__law_bent) (defBody s__law_bent) (defScope s__law_bent) .none kV21 dc21 pm21 an21 cd21 ct21), sl21⟩)
    (c21 : PySem.W.codeIn K cd21 "_law_bent" = true)
    (k21 : PySem.W.keepIn K (.ref f21) = true)
    (a22 : PySem.W.nsIn K mainGlobals "law" = some (some (.ref f22)))
    (l22 : K.lookup f22 = some ⟨oc22, od22, .func (PySem.W.fnOf "law" "law" (defArgs s_law) (defBody s_law) (defScope s_law) .none kV22 dc22 pm22 an22 cd22 ct22), sl22⟩)
    (c22 : PySem.W.codeIn K cd22 "law" = true)
    (k22 : PySem.W.keepIn K (.ref f22) = true)
    (z0 : PySem.W.nsIn K mainGlobals "all" = some none)
    (z1 : PySem.W.nsIn K mainGlobals "bool" = some none)
    (z2 : PySem.W.nsIn K mainGlobals "int" = some none)
    (z3 : PySem.W.nsIn K mainGlobals "isinstance" = some none)
    (z4 : PySem.W.nsIn K mainGlobals "len" = some none)
    (z5 : PySem.W.nsIn K mainGlobals "range" = some none)
    (z6 : PySem.W.nsIn K mainGlobals "str" = some none)
    (z7 : PySem.W.nsIn K mainGlobals "tuple" = some none)
    (y0 : PySem.W.nsIn K mainGlobals "ALU" = some (some cv0))
    (yk0 : kD K 9 cv0 = some k_ALU)
    (y1 : PySem.W.nsIn K mainGlobals "FIGURES" = some (some cv1))
    (yk1 : kD K 9 cv1 = some k_FIGURES)
    (y2 : PySem.W.nsIn K mainGlobals "LETTERS" = some (some cv2))
    (yk2 : kD K 9 cv2 = some k_LETTERS)
    (y3 : PySem.W.nsIn K mainGlobals "MOST_CODE" = some (some cv3))
    (yk3 : kD K 9 cv3 = some (.int 256))
    (y4 : PySem.W.nsIn K mainGlobals "MOST_LABEL" = some (some cv4))
    (yk4 : kD K 9 cv4 = some (.int 12))
    (wa0 : PySem.W.nsIn K mainGlobals "ALU" = some (some (.ref tu0)))
    (wb0 : K.lookup tu0 = some ⟨.type "tuple", none, .seq tv0 tw0, tz0⟩)
    (wc0 : kD K 9 (.ref tu0) = some (.tup l_ALU))
    (ya0 : PySem.W.nsIn K mainGlobals "FORMS" = some (some (.ref ta0)))
    (yb0 : K.lookup ta0 = some ⟨.type "dict", none, .dict te0 tn0, #[]⟩)
    (yc0 : (ta0 == sysModules) = false)
    (yd0 : tabD K 9 te0.toList = some t_FORMS)
    (ye0 : hashesD te0.toList = hashesT w.params t_FORMS)
    (sup : PySem.W.nsIn K mainGlobals "super" = some none)
    (top : (l.prog.main.scope.names.lookup ("super" : Str)).isSome = false)
    (ea0 : PySem.W.nsIn K mainGlobals "GateError" = some (some (.ref eC0)))
    (eb0 : PySem.W.findIn K (.ref eC0) "__init__" = some (some (.ref ef0)))
    (ec0 : K.lookup ef0 = some ⟨.type "function", eod0, .func (PySem.W.ksFn "__init__" "GateError.__init__" (defArgs es_GateError) (defBody es_GateError) (defScope es_GateError) .none ekV0 edc0 epm0 ean0 (.ref ua0) ect0 ub0), esl0⟩)
    (ed0 : PySem.W.codeIn K (.ref ua0) "GateError.__init__" = true)
    (ee0 : K.lookup ua0 = some ⟨eoc0, eo20, .fields evs0, es20⟩)
    (eg0 : evs0[2]? = some (.str l.prog.main.file etf0))
    (eh0 : K.lookup ub0 = some ⟨eol0, eo30, .cell (some (.ref eC0)), es30⟩)
    (ei0 : errB K eC0 ef0 (.builtin "ValueError.__init__") = true)
    (ea1 : PySem.W.nsIn K mainGlobals "InvalidText" = some (some (.ref eC1)))
    (eb1 : PySem.W.findIn K (.ref eC1) "__init__" = some (some (.ref ef1)))
    (ec1 : K.lookup ef1 = some ⟨.type "function", eod1, .func (PySem.W.ksFn "__init__" "InvalidText.__init__" (defArgs es_InvalidText) (defBody es_InvalidText) (defScope es_InvalidText) .none ekV1 edc1 epm1 ean1 (.ref ua1) ect1 ub1), esl1⟩)
    (ed1 : PySem.W.codeIn K (.ref ua1) "InvalidText.__init__" = true)
    (ee1 : K.lookup ua1 = some ⟨eoc1, eo21, .fields evs1, es21⟩)
    (eg1 : evs1[2]? = some (.str l.prog.main.file etf1))
    (eh1 : K.lookup ub1 = some ⟨eol1, eo31, .cell (some (.ref eC1)), es31⟩)
    (ei1 : errB K eC1 ef1 (.ref ef0) = true)
    (ej1 : PySem.W.mroIn K eC1 (.ref eC0) = some true)
    (ek1 : PySem.W.ks_superIn K eC1 eC0 "__init__" = some (some (.builtin "ValueError.__init__")))
    (ea2 : PySem.W.nsIn K mainGlobals "InvalidCode" = some (some (.ref eC2)))
    (eb2 : PySem.W.findIn K (.ref eC2) "__init__" = some (some (.ref ef2)))
    (ec2 : K.lookup ef2 = some ⟨.type "function", eod2, .func (PySem.W.ksFn "__init__" "InvalidCode.__init__" (defArgs es_InvalidCode) (defBody es_InvalidCode) (defScope es_InvalidCode) .none ekV2 edc2 epm2 ean2 (.ref ua2) ect2 ub2), esl2⟩)
    (ed2 : PySem.W.codeIn K (.ref ua2) "InvalidCode.__init__" = true)
    (ee2 : K.lookup ua2 = some ⟨eoc2, eo22, .fields evs2, es22⟩)
    (eg2 : evs2[2]? = some (.str l.prog.main.file etf2))
    (eh2 : K.lookup ub2 = some ⟨eol2, eo32, .cell (some (.ref eC2)), es32⟩)
    (ei2 : errB K eC2 ef2 (.ref ef0) = true)
    (ej2 : PySem.W.mroIn K eC2 (.ref eC0) = some true)
    (ek2 : PySem.W.ks_superIn K eC2 eC0 "__init__" = some (some (.builtin "ValueError.__init__")))
    (esub : subB K [("GateError", eC0), ("InvalidText", eC1), ("InvalidCode", eC2)] subE = true) :
    ∃ fd : FuncData, (∀ (s : Shared) (v : Value), BindsTo s fd ⟨[v], []⟩ [("script", v)]) ∧ ∀ base : Heap, K.In base → base.Ns mainGlobals mg → FnOk l.prog w K mg base (L2.CX l.prog w) 12 fa fd ["script"] (spM K mg 1 m_law) := by
  have e := hfa.symm.trans (PySem.W.mg_of X G a22)
  cases e
  have B0 := errB_ok ei0
  have S0 := funS_mk (prog := l.prog) (D := eC0) (st := es_GateError) ec0 ed0 ee0 eg0 eh0 ⟨_, rfl, rfl⟩ rfl rfl rfl (by decide +kernel) rfl rfl rfl rfl (fun _ _ _ => .of_eq rfl)
  have B1 := errB_ok ei1
  have S1 := funS_mk (prog := l.prog) (D := eC1) (st := es_InvalidText) ec1 ed1 ee1 eg1 eh1 ⟨_, rfl, rfl⟩ rfl rfl rfl (by decide +kernel) rfl rfl rfl rfl (fun _ _ _ => .of_eq rfl)
  have B2 := errB_ok ei2
  have S2 := funS_mk (prog := l.prog) (D := eC2) (st := es_InvalidCode) ec2 ed2 ee2 eg2 eh2 ⟨_, rfl, rfl⟩ rfl rfl rfl (by decide +kernel) rfl rfl rfl rfl (fun _ _ _ => .of_eq rfl)
  have hmE : ∀ p ∈ ([("GateError", eC0), ("InvalidText", eC1), ("InvalidCode", eC2)] : List (Str × Addr)), mg p.1 = some (.ref p.2) := (fun p hp => by
    simp only [List.mem_cons, List.not_mem_nil, or_false] at hp
    rcases hp with rfl | rfl | rfl
    · exact PySem.W.mg_of X G ea0
    · exact PySem.W.mg_of X G ea1
    · exact PySem.W.mg_of X G ea2)
  have T : Tx l.prog w K mg := ⟨PySem.W.mg_none_of X G z0,
    PySem.W.mg_none_of X G z1,
    PySem.W.mg_none_of X G z2,
    PySem.W.mg_none_of X G z3,
    PySem.W.mg_none_of X G z4,
    PySem.W.mg_none_of X G z5,
    PySem.W.mg_none_of X G z6,
    PySem.W.mg_none_of X G z7,
    con_of (PySem.W.mg_of X G y0) yk0,
    con_of (PySem.W.mg_of X G y1) yk1,
    con_of (PySem.W.mg_of X G y2) yk2,
    con_of (PySem.W.mg_of X G y3) yk3,
    con_of (PySem.W.mg_of X G y4) yk4,
    tup_of (PySem.W.mg_of X G wa0) wb0 wc0,
    tab_of (PySem.W.mg_of X G ya0) yb0 yc0 yd0 ye0,
    xfs_ok hmE (fun p hp => by
    simp only [List.mem_cons, List.not_mem_nil, or_false] at hp
    rcases hp with rfl | rfl | rfl
    · exact ⟨B0.xf, B0.n1, B0.n2⟩
    · exact ⟨B1.xf, B1.n1, B1.n2⟩
    · exact ⟨B2.xf, B2.n1, B2.n2⟩),
    subB_ok esub hmE,
    ⟨eC0, PySem.W.mg_of X G ea0, mke1 B0 S0 rfl (fun _ => ⟨_, rfl⟩) (PySem.W.mg_none_of X G sup) top⟩,
    ⟨eC1, PySem.W.mg_of X G ea1, mke2 B0 S0 rfl (fun _ => ⟨_, rfl⟩) B1 S1 rfl (fun _ => ⟨_, rfl⟩) ej1 ek1 (PySem.W.mg_none_of X G sup) top⟩,
    ⟨eC2, PySem.W.mg_of X G ea2, mke2 B0 S0 rfl (fun _ => ⟨_, rfl⟩) B2 S2 rfl (fun _ => ⟨_, rfl⟩) ej2 ek2 (PySem.W.mg_none_of X G sup) top⟩,
    ⟨f0, _, PySem.W.mg_of X G a0, fun_mk (st := s_is_count) l0 c0 k0, (fun_mk (st := s_is_count) l0 c0 k0).binds (ps := ["value"]) fun _ _ _ _ _ _ us hl => match us, hl with | [_], _ => rfl⟩,
    ⟨f1, _, PySem.W.mg_of X G a1, fun_mk (st := s_instruction) l1 c1 k1, (fun_mk (st := s_instruction) l1 c1 k1).binds (ps := ["op", "rd", "rs", "imm"]) fun _ _ _ _ _ _ us hl => match us, hl with | [_, _, _, _], _ => rfl⟩,
    ⟨f2, _, PySem.W.mg_of X G a2, fun_mk (st := s_is_instruction) l2 c2 k2, (fun_mk (st := s_is_instruction) l2 c2 k2).binds (ps := ["value"]) fun _ _ _ _ _ _ us hl => match us, hl with | [_], _ => rfl⟩,
    ⟨f3, _, PySem.W.mg_of X G a3, fun_mk (st := s_check_instruction) l3 c3 k3, (fun_mk (st := s_check_instruction) l3 c3 k3).binds (ps := ["number"]) fun _ _ _ _ _ _ us hl => match us, hl with | [_], _ => rfl⟩,
    ⟨f4, _, PySem.W.mg_of X G a4, fun_mk (st := s_parts_of) l4 c4 k4, (fun_mk (st := s_parts_of) l4 c4 k4).binds (ps := ["number"]) fun _ _ _ _ _ _ us hl => match us, hl with | [_], _ => rfl⟩,
    ⟨f5, _, PySem.W.mg_of X G a5, fun_mk (st := s_form_of) l5 c5 k5, (fun_mk (st := s_form_of) l5 c5 k5).binds (ps := ["number"]) fun _ _ _ _ _ _ us hl => match us, hl with | [_], _ => rfl⟩,
    ⟨f6, _, PySem.W.mg_of X G a6, fun_mk (st := s_instruction_text) l6 c6 k6, (fun_mk (st := s_instruction_text) l6 c6 k6).binds (ps := ["number"]) fun _ _ _ _ _ _ us hl => match us, hl with | [_], _ => rfl⟩,
    ⟨f7, _, PySem.W.mg_of X G a7, fun_mk (st := s_is_label) l7 c7 k7, (fun_mk (st := s_is_label) l7 c7 k7).binds (ps := ["value"]) fun _ _ _ _ _ _ us hl => match us, hl with | [_], _ => rfl⟩,
    ⟨f8, _, PySem.W.mg_of X G a8, fun_mk (st := s_code_rows) l8 c8 k8, (fun_mk (st := s_code_rows) l8 c8 k8).binds (ps := ["text"]) fun _ _ _ _ _ _ us hl => match us, hl with | [_], _ => rfl⟩,
    ⟨f9, _, PySem.W.mg_of X G a9, fun_mk (st := s_is_label_row) l9 c9 k9, (fun_mk (st := s_is_label_row) l9 c9 k9).binds (ps := ["words"]) fun _ _ _ _ _ _ us hl => match us, hl with | [_], _ => rfl⟩,
    ⟨f10, _, PySem.W.mg_of X G a10, fun_mk (st := s_number_below) l10 c10 k10, (fun_mk (st := s_number_below) l10 c10 k10).binds (ps := ["word", "limit"]) fun _ _ _ _ _ _ us hl => match us, hl with | [_, _], _ => rfl⟩,
    ⟨f11, _, PySem.W.mg_of X G a11, fun_mk (st := s_part_told) l11 c11 k11, (fun_mk (st := s_part_told) l11 c11 k11).binds (ps := ["word", "sign", "labels"]) fun _ _ _ _ _ _ us hl => match us, hl with | [_, _, _], _ => rfl⟩,
    ⟨f12, _, PySem.W.mg_of X G a12, fun_mk (st := s_row_told) l12 c12 k12, (fun_mk (st := s_row_told) l12 c12 k12).binds (ps := ["row", "words", "labels"]) fun _ _ _ _ _ _ us hl => match us, hl with | [_, _, _], _ => rfl⟩,
    ⟨f13, _, PySem.W.mg_of X G a13, fun_mk (st := s_code_labels) l13 c13 k13, (fun_mk (st := s_code_labels) l13 c13 k13).binds (ps := ["text"]) fun _ _ _ _ _ _ us hl => match us, hl with | [_], _ => rfl⟩,
    ⟨f14, _, PySem.W.mg_of X G a14, fun_mk (st := s_read_code) l14 c14 k14, (fun_mk (st := s_read_code) l14 c14 k14).binds (ps := ["text"]) fun _ _ _ _ _ _ us hl => match us, hl with | [_], _ => rfl⟩,
    ⟨f15, _, PySem.W.mg_of X G a15, fun_mk (st := s__law_draw) l15 c15 k15, (fun_mk (st := s__law_draw) l15 c15 k15).binds (ps := ["state", "script", "size"]) fun _ _ _ _ _ _ us hl => match us, hl with | [_, _, _], _ => rfl⟩,
    ⟨f16, _, PySem.W.mg_of X G a16, fun_mk (st := s__law_instr) l16 c16 k16, (fun_mk (st := s__law_instr) l16 c16 k16).binds (ps := ["state", "script", "most"]) fun _ _ _ _ _ _ us hl => match us, hl with | [_, _, _], _ => rfl⟩,
    ⟨f17, _, PySem.W.mg_of X G a17, fun_mk (st := s__law_asked) l17 c17 k17, (fun_mk (st := s__law_asked) l17 c17 k17).binds (ps := ["text"]) fun _ _ _ _ _ _ us hl => match us, hl with | [_], _ => rfl⟩,
    ⟨f18, _, PySem.W.mg_of X G a18, fun_mk (st := s__law_label) l18 c18 k18, (fun_mk (st := s__law_label) l18 c18 k18).binds (ps := ["state", "script", "k"]) fun _ _ _ _ _ _ us hl => match us, hl with | [_, _, _], _ => rfl⟩,
    ⟨f19, _, PySem.W.mg_of X G a19, fun_mk (st := s__law_rows) l19 c19 k19, (fun_mk (st := s__law_rows) l19 c19 k19).binds (ps := ["state", "script"]) fun _ _ _ _ _ _ us hl => match us, hl with | [_, _], _ => rfl⟩,
    ⟨f20, _, PySem.W.mg_of X G a20, fun_mk (st := s__law_text) l20 c20 k20, (fun_mk (st := s__law_text) l20 c20 k20).binds (ps := ["state", "script", "rows"]) fun _ _ _ _ _ _ us hl => match us, hl with | [_, _, _], _ => rfl⟩,
    ⟨f21, _, PySem.W.mg_of X G a21, fun_mk (st := s__law_bent) l21 c21 k21, (fun_mk (st := s__law_bent) l21 c21 k21).binds (ps := ["state", "script", "rows", "places"]) fun _ _ _ _ _ _ us hl => match us, hl with | [_, _, _, _], _ => rfl⟩⟩
  exact ⟨_, fun s v => .of_eq rfl, fun base _ _ => (fm_law T (fun_mk (st := s_law) l22 c22 k22)).ok⟩
end K26
open PySem PySem.W PyProof.Rows
set_option maxRecDepth 100000 in
set_option maxHeartbeats 0 in
theorem PySem.Challenge.cw_downtogates_k26_whole_texts_of_code_holds : PySem.Challenge.rw_downtogates_k26_whole_texts_of_code.Holds := by
  w_on; o_law; k_head; (case hw => w_witness2)
  k_fill
  refine MP.law_walk (l := PySem.Challenge.rw_downtogates_k26_whole_texts_of_code) (k := 12) (x := "script") (m := K26.m_law) rfl rfl ⟨rfl, by decide, by decide⟩ (fun w h Y => PySem.W.kIn_of Y) ?F (fun ns hl => K26.law_holds ns hl)
  case F =>
    intro w mg fa h KX G hmg
    refine' K26.all_mk KX G hmg ?a0 ?l0 ?c0 ?k0 ?a1 ?l1 ?c1 ?k1 ?a2 ?l2 ?c2 ?k2 ?a3 ?l3 ?c3 ?k3 ?a4 ?l4 ?c4 ?k4 ?a5 ?l5 ?c5 ?k5 ?a6 ?l6 ?c6 ?k6 ?a7 ?l7 ?c7 ?k7 ?a8 ?l8 ?c8 ?k8 ?a9 ?l9 ?c9 ?k9 ?a10 ?l10 ?c10 ?k10 ?a11 ?l11 ?c11 ?k11 ?a12 ?l12 ?c12 ?k12 ?a13 ?l13 ?c13 ?k13 ?a14 ?l14 ?c14 ?k14 ?a15 ?l15 ?c15 ?k15 ?a16 ?l16 ?c16 ?k16 ?a17 ?l17 ?c17 ?k17 ?a18 ?l18 ?c18 ?k18 ?a19 ?l19 ?c19 ?k19 ?a20 ?l20 ?c20 ?k20 ?a21 ?l21 ?c21 ?k21 ?a22 ?l22 ?c22 ?k22 ?z0 ?z1 ?z2 ?z3 ?z4 ?z5 ?z6 ?z7 ?y0 ?yk0 ?y1 ?yk1 ?y2 ?yk2 ?y3 ?yk3 ?y4 ?yk4 ?wa0 ?wb0 ?wc0 ?ya0 ?yb0 ?yc0 ?yd0 ?ye0 ?sup ?top ?ea0 ?eb0 ?ec0 ?ed0 ?ee0 ?eg0 ?eh0 ?ei0 ?ea1 ?eb1 ?ec1 ?ed1 ?ee1 ?eg1 ?eh1 ?ei1 ?ej1 ?ek1 ?ea2 ?eb2 ?ec2 ?ed2 ?ee2 ?eg2 ?eh2 ?ei2 ?ej2 ?ek2 ?esub
    (case a0 => k_is)
    (case l0 => k_is)
    (case c0 => k_is)
    (case k0 => k_is)
    (case a1 => k_is)
    (case l1 => k_is)
    (case c1 => k_is)
    (case k1 => k_is)
    (case a2 => k_is)
    (case l2 => k_is)
    (case c2 => k_is)
    (case k2 => k_is)
    (case a3 => k_is)
    (case l3 => k_is)
    (case c3 => k_is)
    (case k3 => k_is)
    (case a4 => k_is)
    (case l4 => k_is)
    (case c4 => k_is)
    (case k4 => k_is)
    (case a5 => k_is)
    (case l5 => k_is)
    (case c5 => k_is)
    (case k5 => k_is)
    (case a6 => k_is)
    (case l6 => k_is)
    (case c6 => k_is)
    (case k6 => k_is)
    (case a7 => k_is)
    (case l7 => k_is)
    (case c7 => k_is)
    (case k7 => k_is)
    (case a8 => k_is)
    (case l8 => k_is)
    (case c8 => k_is)
    (case k8 => k_is)
    (case a9 => k_is)
    (case l9 => k_is)
    (case c9 => k_is)
    (case k9 => k_is)
    (case a10 => k_is)
    (case l10 => k_is)
    (case c10 => k_is)
    (case k10 => k_is)
    (case a11 => k_is)
    (case l11 => k_is)
    (case c11 => k_is)
    (case k11 => k_is)
    (case a12 => k_is)
    (case l12 => k_is)
    (case c12 => k_is)
    (case k12 => k_is)
    (case a13 => k_is)
    (case l13 => k_is)
    (case c13 => k_is)
    (case k13 => k_is)
    (case a14 => k_is)
    (case l14 => k_is)
    (case c14 => k_is)
    (case k14 => k_is)
    (case a15 => k_is)
    (case l15 => k_is)
    (case c15 => k_is)
    (case k15 => k_is)
    (case a16 => k_is)
    (case l16 => k_is)
    (case c16 => k_is)
    (case k16 => k_is)
    (case a17 => k_is)
    (case l17 => k_is)
    (case c17 => k_is)
    (case k17 => k_is)
    (case a18 => k_is)
    (case l18 => k_is)
    (case c18 => k_is)
    (case k18 => k_is)
    (case a19 => k_is)
    (case l19 => k_is)
    (case c19 => k_is)
    (case k19 => k_is)
    (case a20 => k_is)
    (case l20 => k_is)
    (case c20 => k_is)
    (case k20 => k_is)
    (case a21 => k_is)
    (case l21 => k_is)
    (case c21 => k_is)
    (case k21 => k_is)
    (case a22 => k_is)
    (case l22 => k_is)
    (case c22 => k_is)
    (case k22 => k_is)
    (case z0 => k_is)
    (case z1 => k_is)
    (case z2 => k_is)
    (case z3 => k_is)
    (case z4 => k_is)
    (case z5 => k_is)
    (case z6 => k_is)
    (case z7 => k_is)
    (case y0 => k_is)
    (case yk0 => kernel_rfl)
    (case y1 => k_is)
    (case yk1 => kernel_rfl)
    (case y2 => k_is)
    (case yk2 => kernel_rfl)
    (case y3 => k_is)
    (case yk3 => kernel_rfl)
    (case y4 => k_is)
    (case yk4 => kernel_rfl)
    (case wa0 => k_is)
    (case wb0 => k_is)
    (case wc0 => kernel_rfl)
    (case ya0 => k_is)
    (case yb0 => k_is)
    (case yc0 => kernel_rfl)
    (case yd0 => kernel_rfl)
    (case ye0 => kernel_rfl)
    (case sup => k_is)
    (case top => first | rfl | kernel_rfl)
    (case ea0 => k_is)
    (case eb0 => k_is)
    (case ec0 => k_is)
    (case ed0 => k_is)
    (case ee0 => k_is)
    (case eg0 => rfl)
    (case eh0 => k_is)
    (case ei0 => kernel_rfl)
    (case ea1 => k_is)
    (case eb1 => k_is)
    (case ec1 => k_is)
    (case ed1 => k_is)
    (case ee1 => k_is)
    (case eg1 => rfl)
    (case eh1 => k_is)
    (case ei1 => kernel_rfl)
    (case ej1 => k_is)
    (case ek1 => kernel_rfl)
    (case ea2 => k_is)
    (case eb2 => k_is)
    (case ec2 => k_is)
    (case ed2 => k_is)
    (case ee2 => k_is)
    (case eg2 => rfl)
    (case eh2 => k_is)
    (case ei2 => kernel_rfl)
    (case ej2 => k_is)
    (case ek2 => kernel_rfl)
    (case esub => kernel_rfl)
