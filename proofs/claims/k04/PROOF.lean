import PyProof.Rows.All
import HandS.ForMost
import HandS.Style
import HandS.TupAny
import HandS.IsInst
import HandS.Defaults
import HandS.Flow
import HandS.HeadHook2
import HandS.Deep
import HandS.NoneIn
import HandS.Head2
import HandS.HeadEnd
import PySem.Challenge.RW_turnpike_k04_whole_tolls_one_behind_anot
set_option Elab.async false
set_option linter.all false
set_option autoImplicit false
set_option maxRecDepth 100000
/-! DtA: plain data, cells, what they stand for in the abstract heap. -/
namespace Dt
open PySem PySem.Spec PyProof.Rows L2

inductive D where
  | non | bl (b : Bool) | int (i : Int) | str (x : String) | tup (xs : List D) | ref (n : Nat)

mutual
def RD (K : PySem.W.Frag) (H : Hp) (ι : List Addr) : D → V → Prop
  | .non, v => v = .non
  | .bl b, v => v = .bl b
  | .int i, v => v = .int i
  | .str x, v => v = .str (Str.ofString x)
  | .tup xs, v => ∃ a vs, v = .ref a ∧ SqT K H a vs ∧ RDs K H ι xs vs
  | .ref n, v => ∃ a, ι[n]? = some a ∧ v = .ref a
def RDs (K : PySem.W.Frag) (H : Hp) (ι : List Addr) : List D → List V → Prop
  | [], vs => vs = []
  | x :: xs, vs => ∃ v r, vs = v :: r ∧ RD K H ι x v ∧ RDs K H ι xs r
end
/-- values under keys -/
def RKs {κ : Type} (K : PySem.W.Frag) (H : Hp) (ι : List Addr) : List (κ × D) → List (κ × V) → Prop
  | [], vs => vs = []
  | x :: xs, vs => ∃ v r, vs = (x.1, v) :: r ∧ RD K H ι x.2 v ∧ RKs K H ι xs r

/-- .. under names -/
def RFs (K : PySem.W.Frag) (H : Hp) (ι : List Addr) : List (String × D) → List (Str × V) → Prop
  | [], vs => vs = []
  | x :: xs, vs => ∃ v r, vs = (Str.ofString x.1, v) :: r ∧ RD K H ι x.2 v ∧ RFs K H ι xs r
theorem ofString_inj {s t : String} (h : Str.ofString s = Str.ofString t) : s = t := by
  rw [Str.ofString_eq_toList, Str.ofString_eq_toList] at h
  have h1 : s.toList.map Char.toNat = t.toList.map Char.toNat := by
    have := congrArg (fun z : Str => z.cps.toList) h
    simpa using this
  have h2 : s.toList = t.toList := by
    refine List.map_inj_right (f := Char.toNat) ?_ |>.mp h1
    intro x y e
    exact Char.ext (UInt32.toNat_inj.mp e)
  exact String.toList_inj.mp h2
theorem ofString_eq_iff {s t : String} : Str.ofString s = Str.ofString t ↔ s = t := ⟨ofString_inj, fun h => by rw [h]⟩

/-- tuples stay -/
def TExt (K : PySem.W.Frag) (H H' : Hp) : Prop := ∀ a xs, SqT K H a xs → SqT K H' a xs
theorem TExt.rfl' {K : PySem.W.Frag} {H : Hp} : TExt K H H := fun _ _ h => h
theorem TExt.trans {K : PySem.W.Frag} {H H1 H2 : Hp} (a : TExt K H H1) (b : TExt K H1 H2) : TExt K H H2 := fun x y h => b x y (a x y h)
theorem TExt.upd {K : PySem.W.Frag} {H : Hp} {p : Addr} {o : HO} (h : H p = none) : TExt K H (upd H p o) := fun a xs q => by
  rcases q with (q | ⟨o', q⟩) | q
  · exact .inl (.inl (by rw [upd_ne (ne_of_none q h)]; exact q))
  · exact .inl (.inr ⟨o', by rw [upd_ne (ne_of_none q h)]; exact q⟩)
  · exact .inr q
/-- what a cell that may be written looks like -/
def mutO : HO → Bool
  | .lst _ => true
  | .dK _ => true
  | .dT _ => true
  | .ins _ _ _ => true
  | _ => false
theorem TExt.write {K : PySem.W.Frag} {H : Hp} {p : Addr} {o o' : HO} (h : H p = some o) (hm : mutO o = true) : TExt K H (L2.upd H p o') := fun a xs q => by
  have ne : ∀ u, H a = some u → mutO u = false → a ≠ p := fun u e z w => by
    subst w
    rw [h] at e
    cases e
    rw [hm] at z
    cases z
  rcases q with (q | ⟨o', q⟩) | q
  · exact .inl (.inl (by rw [upd_ne (ne _ q rfl)]; exact q))
  · exact .inl (.inr ⟨o', by rw [upd_ne (ne _ q rfl)]; exact q⟩)
  · exact .inr q

theorem getElem?_prefix {α : Type} {l l' : List α} (h : l <+: l') {i : Nat} {x : α} (e : l[i]? = some x) : l'[i]? = some x := by
  obtain ⟨t, rfl⟩ := h
  have := (List.getElem?_eq_some_iff.mp e).1
  rw [List.getElem?_append_left this]
  exact e

section
variable {K : PySem.W.Frag} {H H' : Hp} {ι ι' : List Addr}
mutual
theorem RD.mono (p : ι <+: ι') (t : TExt K H H') : ∀ {x : D} {v : V}, RD K H ι x v → RD K H' ι' x v
  | .non, _, h => by unfold RD at h ⊢; exact h
  | .bl _, _, h => by unfold RD at h ⊢; exact h
  | .int _, _, h => by unfold RD at h ⊢; exact h
  | .str _, _, h => by unfold RD at h ⊢; exact h
  | .tup xs, v, h => by
    unfold RD at h ⊢
    obtain ⟨a, vs, e, s, r⟩ := h
    exact ⟨a, vs, e, t a vs s, RDs.mono p t r⟩
  | .ref n, v, h => by
    unfold RD at h ⊢
    obtain ⟨a, e, q⟩ := h
    exact ⟨a, getElem?_prefix p e, q⟩
theorem RDs.mono (p : ι <+: ι') (t : TExt K H H') : ∀ {xs : List D} {vs : List V}, RDs K H ι xs vs → RDs K H' ι' xs vs
  | [], _, h => by unfold RDs at h ⊢; exact h
  | x :: xs, vs, h => by
    unfold RDs at h ⊢
    obtain ⟨v, r, e, h1, h2⟩ := h
    exact ⟨v, r, e, RD.mono p t h1, RDs.mono p t h2⟩
end
theorem RKs.mono {κ : Type} (p : ι <+: ι') (t : TExt K H H') : ∀ {xs : List (κ × D)} {vs : List (κ × V)}, RKs K H ι xs vs → RKs K H' ι' xs vs
  | [], _, h => h
  | x :: xs, vs, h => by
    obtain ⟨v, r, e, h1, h2⟩ := h
    exact ⟨v, r, e, h1.mono p t, RKs.mono p t h2⟩

theorem RFs.mono (p : ι <+: ι') (t : TExt K H H') : ∀ {xs : List (String × D)} {vs : List (Str × V)}, RFs K H ι xs vs → RFs K H' ι' xs vs
  | [], _, h => h
  | x :: xs, vs, h => by
    obtain ⟨v, r, e, h1, h2⟩ := h
    exact ⟨v, r, e, h1.mono p t, RFs.mono p t h2⟩

theorem RDs.nil : RDs K H ι [] [] := by unfold RDs; rfl
theorem RDs.cons {x : D} {v : V} {xs : List D} {vs : List V} (h : RD K H ι x v) (hs : RDs K H ι xs vs) : RDs K H ι (x :: xs) (v :: vs) := by
  unfold RDs; exact ⟨v, vs, rfl, h, hs⟩
theorem RDs.inv {x : D} {xs : List D} {vs : List V} (h : RDs K H ι (x :: xs) vs) : ∃ v r, vs = v :: r ∧ RD K H ι x v ∧ RDs K H ι xs r := by unfold RDs at h; exact h
theorem RDs.inv0 {vs : List V} (h : RDs K H ι [] vs) : vs = [] := by unfold RDs at h; exact h
theorem RDs.length : ∀ {xs : List D} {vs : List V}, RDs K H ι xs vs → xs.length = vs.length
  | [], _, h => by rw [h.inv0]; rfl
  | x :: xs, vs, h => by
    obtain ⟨v, r, rfl, _, h2⟩ := h.inv
    rw [List.length_cons, List.length_cons, RDs.length h2]
theorem RDs.get : ∀ {xs : List D} {vs : List V}, RDs K H ι xs vs → ∀ {i : Nat} {x : D}, xs[i]? = some x → ∃ v, vs[i]? = some v ∧ RD K H ι x v
  | [], _, _, i, x, e => by simp at e
  | y :: xs, vs, h, 0, x, e => by
    obtain ⟨v, r, rfl, h1, h2⟩ := h.inv
    simp at e; subst e
    exact ⟨v, rfl, h1⟩
  | y :: xs, vs, h, i + 1, x, e => by
    obtain ⟨v, r, rfl, h1, h2⟩ := h.inv
    obtain ⟨w, e1, e2⟩ := RDs.get h2 (i := i) (x := x) (by simpa using e)
    exact ⟨w, by simpa using e1, e2⟩
theorem RDs.append : ∀ {xs ys : List D} {vs ws : List V}, RDs K H ι xs vs → RDs K H ι ys ws → RDs K H ι (xs ++ ys) (vs ++ ws)
  | [], _, _, _, h, g => by rw [h.inv0]; exact g
  | x :: xs, ys, vs, ws, h, g => by
    obtain ⟨v, r, rfl, h1, h2⟩ := h.inv
    exact RDs.cons h1 (RDs.append h2 g)
theorem RDs.take : ∀ (n : Nat) {xs : List D} {vs : List V}, RDs K H ι xs vs → RDs K H ι (xs.take n) (vs.take n)
  | 0, _, _, _ => RDs.nil
  | n + 1, [], vs, h => by rw [h.inv0]; exact RDs.nil
  | n + 1, x :: xs, vs, h => by
    obtain ⟨v, r, rfl, h1, h2⟩ := h.inv
    exact RDs.cons h1 (RDs.take n h2)
theorem RDs.drop : ∀ (n : Nat) {xs : List D} {vs : List V}, RDs K H ι xs vs → RDs K H ι (xs.drop n) (vs.drop n)
  | 0, _, _, h => h
  | n + 1, [], vs, h => by rw [h.inv0]; exact RDs.nil
  | n + 1, x :: xs, vs, h => by
    obtain ⟨v, r, rfl, h1, h2⟩ := h.inv
    exact RDs.drop n h2
theorem RDs.reverse : ∀ {xs : List D} {vs : List V}, RDs K H ι xs vs → RDs K H ι xs.reverse vs.reverse
  | [], _, h => by rw [h.inv0]; exact RDs.nil
  | x :: xs, vs, h => by
    obtain ⟨v, r, rfl, h1, h2⟩ := h.inv
    rw [List.reverse_cons, List.reverse_cons]
    exact (RDs.reverse h2).append (RDs.cons h1 RDs.nil)
theorem RDs.set {x : D} {v : V} (hx : RD K H ι x v) : ∀ {xs : List D} {vs : List V} (i : Nat), RDs K H ι xs vs → RDs K H ι (xs.set i x) (vs.set i v)
  | [], _, _, h => by rw [h.inv0]; exact RDs.nil
  | y :: xs, vs, 0, h => by
    obtain ⟨w, r, rfl, h1, h2⟩ := h.inv
    exact RDs.cons hx h2
  | y :: xs, vs, i + 1, h => by
    obtain ⟨w, r, rfl, h1, h2⟩ := h.inv
    exact RDs.cons h1 (RDs.set hx i h2)
theorem RDs.eraseIdx : ∀ {xs : List D} {vs : List V} (i : Nat), RDs K H ι xs vs → RDs K H ι (xs.eraseIdx i) (vs.eraseIdx i)
  | [], _, _, h => by rw [h.inv0]; exact RDs.nil
  | y :: xs, vs, 0, h => by
    obtain ⟨w, r, rfl, h1, h2⟩ := h.inv
    exact h2
  | y :: xs, vs, i + 1, h => by
    obtain ⟨w, r, rfl, h1, h2⟩ := h.inv
    exact RDs.cons h1 (RDs.eraseIdx i h2)
theorem RDs.dropLast {xs : List D} {vs : List V} (h : RDs K H ι xs vs) : RDs K H ι xs.dropLast vs.dropLast := by
  rw [List.dropLast_eq_take, List.dropLast_eq_take, h.length]
  exact h.take _
theorem RDs.ints : ∀ {ns : List Int} {vs : List V}, RDs K H ι (ns.map D.int) vs → vs = ns.map V.int
  | [], _, h => h.inv0
  | n :: ns, vs, h => by
    obtain ⟨v, r, rfl, h1, h2⟩ := h.inv
    unfold RD at h1
    rw [h1, RDs.ints h2]; rfl
theorem RDs.of_ints : ∀ (ns : List Int), RDs K H ι (ns.map D.int) (ns.map V.int)
  | [] => RDs.nil
  | n :: ns => RDs.cons (by unfold RD; rfl) (RDs.of_ints ns)
theorem RDs.bls : ∀ {ns : List Bool} {vs : List V}, RDs K H ι (ns.map D.bl) vs → vs = ns.map V.bl
  | [], _, h => h.inv0
  | n :: ns, vs, h => by
    obtain ⟨v, r, rfl, h1, h2⟩ := h.inv
    unfold RD at h1
    rw [h1, RDs.bls h2]; rfl
theorem RKs.length {κ : Type} : ∀ {xs : List (κ × D)} {vs : List (κ × V)}, RKs K H ι xs vs → xs.length = vs.length
  | [], _, h => by rw [show _ = [] from h]; rfl
  | x :: xs, vs, h => by
    obtain ⟨v, r, rfl, _, h2⟩ := h
    rw [List.length_cons, List.length_cons, RKs.length h2]
end

/-! ### cells -/
inductive Cell where
  | lst (xs : List D)
  | ro (xs : List D)
  | dct (kvs : List (Key × D))
  | dtu (kvs : List (List Key × D))
  | ins (c : String) (fs : List (String × D))
def Cell.mut : Cell → Bool
  | .ro _ => false
  | _ => true
abbrev Hd := List Cell

def SqR (K : PySem.W.Frag) (H : Hp) (a : Addr) (xs : List V) : Prop :=
  (∃ o, H a = some (.frz o (.lst xs))) ∨
    ∃ (o : Obj) (its : Array Value) (n : Nat), K.lookup a = some o ∧ o.cls = .type "list" ∧ o.dict = none ∧ o.data = .seq its n ∧ its.size ≤ sizeLine ∧ Vals xs its.toList
theorem SqR.sq {K : PySem.W.Frag} {H : Hp} {a : Addr} {xs : List V} (h : SqR K H a xs) : SqL K H a xs := by
  rcases h with h | h
  · exact .inl (.inr h)
  · exact .inr h
def CellOk (K : PySem.W.Frag) (H : Hp) (ι : List Addr) (a : Addr) : Cell → Prop
  | .lst xs => ∃ vs, H a = some (.lst vs) ∧ RDs K H ι xs vs
  | .ro xs => ∃ vs, SqR K H a vs ∧ RDs K H ι xs vs
  | .dct kvs => ∃ vs, H a = some (.dK vs) ∧ RKs K H ι kvs vs
  | .dtu kvs => ∃ vs, H a = some (.dT vs) ∧ RKs K H ι kvs vs
  | .ins c fs => ∃ dx vs, H a = some (.ins (He.ga K (Str.ofString c)) dx vs) ∧ RFs K H ι fs vs

structure RelH (K : PySem.W.Frag) (ι : List Addr) (h : Hd) (H : Hp) : Prop where
  len : ι.length = h.length
  ok : ∀ (n : Nat) (c : Cell) (a : Addr), h[n]? = some c → ι[n]? = some a → CellOk K H ι a c
  inj : ∀ (n m : Nat) (a : Addr) (c d : Cell), ι[n]? = some a → ι[m]? = some a → h[n]? = some c → h[m]? = some d → c.mut = true → d.mut = true → n = m

section
variable {K : PySem.W.Frag} {H H' : Hp} {ι ι' : List Addr} {h h' : Hd} {a p : Addr} {c d : Cell} {n : Nat} {o : HO}
theorem CellOk.mutH (x : CellOk K H ι a c) (m : c.mut = true) : ∃ o, H a = some o ∧ mutO o = true := by
  cases c with
  | ro xs => cases m
  | lst xs => obtain ⟨vs, e, _⟩ := x; exact ⟨_, e, rfl⟩
  | dct xs => obtain ⟨vs, e, _⟩ := x; exact ⟨_, e, rfl⟩
  | dtu xs => obtain ⟨vs, e, _⟩ := x; exact ⟨_, e, rfl⟩
  | ins c xs => obtain ⟨dx, vs, e, _⟩ := x; exact ⟨_, e, rfl⟩
/-- a cell where the heap changed elsewhere -/
theorem CellOk.keep (x : CellOk K H ι a c) (p : ι <+: ι') (t : TExt K H H') (k : ∀ o, H a = some o → H' a = some o) : CellOk K H' ι' a c := by
  cases c with
  | ro xs =>
    obtain ⟨vs, e, r⟩ := x
    refine ⟨vs, ?_, r.mono p t⟩
    rcases e with ⟨o, e⟩ | e
    · exact .inl ⟨o, k _ e⟩
    · exact .inr e
  | lst xs => obtain ⟨vs, e, r⟩ := x; exact ⟨vs, k _ e, r.mono p t⟩
  | dct xs => obtain ⟨vs, e, r⟩ := x; exact ⟨vs, k _ e, r.mono p t⟩
  | dtu xs => obtain ⟨vs, e, r⟩ := x; exact ⟨vs, k _ e, r.mono p t⟩
  | ins c xs => obtain ⟨dx, vs, e, r⟩ := x; exact ⟨dx, vs, k _ e, r.mono p t⟩
theorem RelH.at (R : RelH K ι h H) (e : h[n]? = some c) : ∃ a, ι[n]? = some a ∧ CellOk K H ι a c := by
  have hn := (List.getElem?_eq_some_iff.mp e).1
  have hn' : n < ι.length := by rw [R.len]; exact hn
  exact ⟨ι[n], by simp [hn'], R.ok n c _ e (by simp [hn'])⟩
/-- an untracked object laid -/
theorem RelH.fresh (R : RelH K ι h H) (hp : H p = none) : RelH K ι h (upd H p o) :=
  ⟨R.len, fun n c a e1 e2 => (R.ok n c a e1 e2).keep (List.prefix_refl _) (TExt.upd hp) fun u q => by rw [upd_ne (ne_of_none q hp)]; exact q, R.inj⟩
/-- a new cell -/
theorem RelH.alloc (R : RelH K ι h H) (hp : H p = none) (x : CellOk K (upd H p o) (ι ++ [p]) p c) : RelH K (ι ++ [p]) (h ++ [c]) (upd H p o) := by
  have pre : ι <+: ι ++ [p] := ⟨[p], rfl⟩
  have old : ∀ (n : Nat) (c : Cell) (a : Addr), h[n]? = some c → ι[n]? = some a → CellOk K (upd H p o) (ι ++ [p]) a c := fun n c a e1 e2 =>
    (R.ok n c a e1 e2).keep pre (TExt.upd hp) fun u q => by rw [upd_ne (ne_of_none q hp)]; exact q
  refine ⟨by rw [List.length_append, List.length_append, R.len]; rfl, fun n c' a e1 e2 => ?_, fun n m a c' d' i1 i2 e1 e2 m1 m2 => ?_⟩
  · by_cases hn : n < h.length
    · rw [List.getElem?_append_left hn] at e1
      rw [List.getElem?_append_left (by rw [R.len]; exact hn)] at e2
      exact old n c' a e1 e2
    · have hl := (List.getElem?_eq_some_iff.mp e1).1
      rw [List.length_append, List.length_singleton] at hl
      have : n = h.length := by omega
      subst this
      rw [List.getElem?_append_right (Nat.le_refl _), Nat.sub_self] at e1
      rw [List.getElem?_append_right (by rw [R.len]; exact Nat.le_refl _), R.len, Nat.sub_self] at e2
      simp at e1 e2
      subst e1 e2
      exact x
  · have new : ∀ {k : Nat} {c : Cell} {a : Addr}, h[k]? = some c → ι[k]? = some a → c.mut = true → a ≠ p := fun {k c a} q1 q2 m => by
      obtain ⟨o', e, _⟩ := (R.ok k c a q1 q2).mutH m
      exact ne_of_none e hp
    have cut : ∀ {k : Nat} {c'' : Cell} {a'' : Addr}, (h ++ [c])[k]? = some c'' → (ι ++ [p])[k]? = some a'' → (k < h.length ∧ h[k]? = some c'' ∧ ι[k]? = some a'') ∨ (k = h.length ∧ a'' = p) := by
      intro k c'' a'' e1 e2
      by_cases hn : k < h.length
      · rw [List.getElem?_append_left hn] at e1
        rw [List.getElem?_append_left (by rw [R.len]; exact hn)] at e2
        exact .inl ⟨hn, e1, e2⟩
      · have hl := (List.getElem?_eq_some_iff.mp e1).1
        rw [List.length_append, List.length_singleton] at hl
        have : k = h.length := by omega
        subst this
        rw [List.getElem?_append_right (by rw [R.len]; exact Nat.le_refl _), R.len, Nat.sub_self] at e2
        simp at e2
        exact .inr ⟨rfl, e2.symm⟩
    rcases cut e1 i1 with ⟨_, q1, q2⟩ | ⟨k1, k2⟩ <;> rcases cut e2 i2 with ⟨_, z1, z2⟩ | ⟨j1, j2⟩
    · exact R.inj n m a c' d' q2 z2 q1 z1 m1 m2
    · exact absurd j2 (new q1 q2 m1)
    · exact absurd k2 (new z1 z2 m2)
    · rw [k1, j1]
/-- a cell written -/
theorem RelH.write (R : RelH K ι h H) (e : h[n]? = some d) (m : d.mut = true) (i : ι[n]? = some a) (x : CellOk K (upd H a o) ι a c) (mc : c.mut = true) : RelH K ι (h.set n c) (upd H a o) := by
  obtain ⟨od, ea, mo⟩ := (R.ok n d a e i).mutH m
  have hn := (List.getElem?_eq_some_iff.mp e).1
  refine ⟨by rw [List.length_set]; exact R.len, fun k c' b e1 e2 => ?_, fun k j b c' d' i1 i2 e1 e2 m1 m2 => ?_⟩
  · by_cases hk : k = n
    · subst hk
      rw [List.getElem?_set_self hn] at e1
      cases e1
      rw [i] at e2; cases e2
      exact x
    · rw [List.getElem?_set_ne (Ne.symm hk)] at e1
      have old := R.ok k c' b e1 e2
      have te : TExt K H (upd H a o) := TExt.write ea mo
      cases hm : c'.mut with
      | true =>
        have hb : b ≠ a := fun z => by
          subst z
          exact hk (R.inj k n b c' d e2 i e1 e hm m)
        exact old.keep (List.prefix_refl _) te fun u q => by rw [upd_ne hb]; exact q
      | false =>
        cases c' with
        | ro xs =>
          obtain ⟨vs, z, r⟩ := old
          refine ⟨vs, ?_, r.mono (List.prefix_refl _) te⟩
          rcases z with ⟨o', z⟩ | z
          · refine .inl ⟨o', ?_⟩
            rw [upd_ne (fun q => by subst q; rw [ea] at z; cases z; cases mo)]
            exact z
          · exact .inr z
        | lst _ => cases hm
        | dct _ => cases hm
        | dtu _ => cases hm
        | ins _ _ => cases hm
  · by_cases hk : k = n <;> by_cases hj : j = n
    · rw [hk, hj]
    · subst hk
      rw [List.getElem?_set_ne (Ne.symm hj)] at e2
      exact R.inj k j b d d' i1 i2 e e2 m m2
    · subst hj
      rw [List.getElem?_set_ne (Ne.symm hk)] at e1
      exact R.inj k j b c' d i1 i2 e1 e m1 m
    · rw [List.getElem?_set_ne (Ne.symm hk)] at e1
      rw [List.getElem?_set_ne (Ne.symm hj)] at e2
      exact R.inj k j b c' d' i1 i2 e1 e2 m1 m2
end
end Dt

set_option Elab.async false
set_option linter.all false
set_option autoImplicit false
set_option maxRecDepth 100000
/-! DtB: the runs (M), what it means that a piece of syntax does such a run (DE, DT, DA, DS), names, constants, operators. -/
namespace Dt
open PySem PySem.Spec PyProof.Rows L2

/-! ### runs -/
abbrev M (α : Type) := Hd → Option (α × Hd)
def ret {α : Type} (a : α) : M α := fun h => some (a, h)
def bad {α : Type} : M α := fun _ => none
def bnd {α β : Type} (m : M α) (f : α → M β) : M β := fun h => match m h with
  | some (a, h') => f a h'
  | none => none
theorem bnd_some {α β : Type} {m : M α} {f : α → M β} {h h2 : Hd} {b : β} (e : bnd m f h = some (b, h2)) : ∃ a h1, m h = some (a, h1) ∧ f a h1 = some (b, h2) := by
  unfold bnd at e
  cases q : m h with
  | none => rw [q] at e; cases e
  | some r => obtain ⟨a, h1⟩ := r; rw [q] at e; exact ⟨a, h1, rfl, e⟩
/-- sizes that the model takes -/
abbrev LIM : Nat := 1000000
theorem lim_line {n : Nat} (h : n ≤ LIM) : n ≤ sizeLine := by rw [sizeLine_eq]; exact Nat.le_trans h (by decide)
theorem lim_line' {n : Nat} (h : n ≤ LIM) : n < sizeLine := by rw [sizeLine_eq]; exact Nat.lt_of_le_of_lt h (by decide)

/-! ### names' values -/
abbrev Ev := List (Option D)
structure REnv (K : PySem.W.Frag) (H : Hp) (ι : List Addr) (σ : Ev) (τ : L2.St) : Prop where
  len : σ.length = τ.length
  at_ : ∀ (i : Nat) (d : D), σ[i]? = some (some d) → ∃ v, τ[i]? = some (some v) ∧ RD K H ι d v
section
variable {K : PySem.W.Frag} {H H' : Hp} {ι ι' : List Addr} {σ : Ev} {τ : L2.St}
theorem REnv.mono (r : REnv K H ι σ τ) (p : ι <+: ι') (t : TExt K H H') : REnv K H' ι' σ τ := ⟨r.len, fun i d e => let ⟨v, e1, e2⟩ := r.at_ i d e; ⟨v, e1, e2.mono p t⟩⟩
theorem REnv.set (r : REnv K H ι σ τ) {d : D} {v : V} (x : RD K H ι d v) (i : Nat) : REnv K H ι (σ.set i (some d)) (τ.set i (some v)) := by
  refine ⟨by rw [List.length_set, List.length_set]; exact r.len, fun j d' e => ?_⟩
  by_cases hj : i = j
  · subst hj
    have hi : i < σ.length := by
      have := (List.getElem?_eq_some_iff.mp e).1
      rwa [List.length_set] at this
    rw [List.getElem?_set_self hi] at e
    cases e
    exact ⟨v, by rw [List.getElem?_set_self (by rw [← r.len]; exact hi)], x⟩
  · rw [List.getElem?_set_ne hj] at e
    obtain ⟨w, e1, e2⟩ := r.at_ j d' e
    exact ⟨w, by rw [List.getElem?_set_ne hj]; exact e1, e2⟩
end
structure RelS (K : PySem.W.Frag) (ι : List Addr) (σ : Ev) (h : Hd) (τ : L2.St) (H : Hp) : Prop where
  hp : RelH K ι h H
  env : REnv K H ι σ τ
/-- what follows from a run's end -/
def Pst (K : PySem.W.Frag) (ι : List Addr) (H : Hp) (d : D) (h' : Hd) (Q : VK) : Prop := ∀ (ι' : List Addr) (v : V) (H' : Hp), ι <+: ι' → RelH K ι' h' H' → RD K H' ι' d v → TExt K H H' → Q v H'
def PstB (K : PySem.W.Frag) (ι : List Addr) (H : Hp) (b : Bool) (h' : Hd) (Q : Bool → Hp → Prop) : Prop := ∀ (ι' : List Addr) (H' : Hp), ι <+: ι' → RelH K ι' h' H' → TExt K H H' → Q b H'
def PstA (K : PySem.W.Frag) (ι : List Addr) (H : Hp) (ds : List D) (h' : Hd) (Q : List V → Hp → Prop) : Prop := ∀ (ι' : List Addr) (vs : List V) (H' : Hp), ι <+: ι' → RelH K ι' h' H' → RDs K H' ι' ds vs → TExt K H H' → Q vs H'
theorem Pst.step {K : PySem.W.Frag} {ι ι1 : List Addr} {H H1 : Hp} {d : D} {h' : Hd} {Q : VK} (k : Pst K ι H d h' Q) (p : ι <+: ι1) (t : TExt K H H1) : Pst K ι1 H1 d h' Q :=
  fun ι' v H' p' R r t' => k ι' v H' (p.trans p') R r (t.trans t')
theorem PstB.step {K : PySem.W.Frag} {ι ι1 : List Addr} {H H1 : Hp} {d : Bool} {h' : Hd} {Q : Bool → Hp → Prop} (k : PstB K ι H d h' Q) (p : ι <+: ι1) (t : TExt K H H1) : PstB K ι1 H1 d h' Q :=
  fun ι' H' p' R t' => k ι' H' (p.trans p') R (t.trans t')
theorem PstA.step {K : PySem.W.Frag} {ι ι1 : List Addr} {H H1 : Hp} {d : List D} {h' : Hd} {Q : List V → Hp → Prop} (k : PstA K ι H d h' Q) (p : ι <+: ι1) (t : TExt K H H1) : PstA K ι1 H1 d h' Q :=
  fun ι' v H' p' R r t' => k ι' v H' (p.trans p') R r (t.trans t')
theorem RelS.step {K : PySem.W.Frag} {ι ι1 : List Addr} {σ : Ev} {h h1 : Hd} {τ : L2.St} {H H1 : Hp} (S : RelS K ι σ h τ H) (p : ι <+: ι1) (R : RelH K ι1 h1 H1) (t : TExt K H H1) : RelS K ι1 σ h1 τ H1 := ⟨R, S.env.mono p t⟩

def tD (K : PySem.W.Frag) (f : Ev → M D) : TE := fun τ H Q => ∃ (ι : List Addr) (σ : Ev) (h : Hd) (d : D) (h' : Hd), RelS K ι σ h τ H ∧ f σ h = some (d, h') ∧ Pst K ι H d h' Q
def tDB (K : PySem.W.Frag) (f : Ev → M Bool) : TT := fun τ H Q => ∃ (ι : List Addr) (σ : Ev) (h : Hd) (d : Bool) (h' : Hd), RelS K ι σ h τ H ∧ f σ h = some (d, h') ∧ PstB K ι H d h' Q
def tDA (K : PySem.W.Frag) (f : Ev → M (List D)) : TA := fun τ H Q => ∃ (ι : List Addr) (σ : Ev) (h : Hd) (d : List D) (h' : Hd), RelS K ι σ h τ H ∧ f σ h = some (d, h') ∧ PstA K ι H d h' Q
/-- the syntax e runs as f -/
def DE (X : Cx) (e : Expr) (f : Ev → M D) : Prop := PE X e (tD X.K f)
def DT (X : Cx) (e : Expr) (f : Ev → M Bool) : Prop := PT X e (tDB X.K f)
def DW (X : Cx) (e : Expr) (f : Ev → M Bool) : Prop := PW X e (tDB X.K f)
def DA (X : Cx) (es : List Expr) (f : Ev → M (List D)) : Prop := PA X es (tDA X.K f)

theorem PE.le {X : Cx} {e : Expr} {t t' : TE} (h : PE X e t) (w : ∀ τ H Q, t' τ H Q → t τ H Q) : PE X e t' := ⟨fun pins s σ H Q I q => h.run pins s σ H Q I (w _ _ _ q)⟩
theorem PT.le {X : Cx} {e : Expr} {t t' : TT} (h : PT X e t) (w : ∀ τ H Q, t' τ H Q → t τ H Q) : PT X e t' := ⟨fun pins s σ H Q I q => h.run pins s σ H Q I (w _ _ _ q)⟩
theorem PW.le {X : Cx} {e : Expr} {t t' : TT} (h : PW X e t) (w : ∀ τ H Q, t' τ H Q → t τ H Q) : PW X e t' := ⟨fun wh pins s σ H Q I q => h.run wh pins s σ H Q I (w _ _ _ q)⟩
theorem PA.le {X : Cx} {es : List Expr} {t t' : TA} (h : PA X es t) (w : ∀ τ H Q, t' τ H Q → t τ H Q) : PA X es t' := ⟨fun pos pins s σ H Q I q => h.run pos pins s σ H Q I (w _ _ _ q)⟩

section
variable {X : Cx} {a b c e : Expr} {f g k : Ev → M D} {pos : Pos}

/-! ### names, constants -/
def xV (i : Nat) : Ev → M D := fun σ h => match σ[i]? with
  | some (some d) => some (d, h)
  | _ => none
theorem dv (i : Nat) {x : Str} {pos : Pos} (hN : X.N[i]? = some x := by rfl) (hv : Vis X.env.scope x := by first | exact Or.inl rfl | exact Or.inr (Or.inl rfl) | exact Or.inr (Or.inr rfl)) (hd : (x == ("__debug__" : Str)) = false := by decide)
    (hcd : (x == ("__classdict__" : Str)) = false := by decide) : DE X (.Name x pos) (xV i) := by
  refine PE.le (pe_var hN hv hd hcd) fun τ H Q ⟨ι, σ, h, d, h', S, ev, q⟩ => ?_
  unfold xV at ev
  split at ev
  · rename_i d' e1
    cases ev
    obtain ⟨v, e2, r⟩ := S.env.at_ i _ e1
    exact ⟨v, e2, q ι v H (List.prefix_refl _) S.hp r TExt.rfl'⟩
  · cases ev
def xC (d : D) : Ev → M D := fun _ => ret d
theorem de_const {v : V} (d : D) (h : PE X e (tC v)) (r : ∀ H ι, RD X.K H ι d v) : DE X e (xC d) := by
  refine PE.le h fun τ H Q ⟨ι, σ, h, d, h', S, ev, q⟩ => ?_
  cases ev
  exact q ι v H (List.prefix_refl _) S.hp (r H ι) TExt.rfl'
theorem de_int {i : Int} {j : Nat} : DE X (.Constant (.int i) j pos) (xC (.int i)) := de_const (.int i) pe_int fun _ _ => by unfold RD; rfl
theorem de_bl {i : Bool} {j : Nat} : DE X (.Constant (.bool i) j pos) (xC (.bl i)) := de_const (.bl i) pe_bl fun _ _ => by unfold RD; rfl
theorem de_non {j : Nat} : DE X (.Constant .none j pos) (xC .non) := de_const .non pe_non fun _ _ => by unfold RD; rfl
theorem de_str {x : String} {j : Nat} : DE X (.Constant (.str (Str.ofString x)) j pos) (xC (.str x)) := de_const (.str x) pe_str fun _ _ => by unfold RD; rfl
/-- a module's constant: an int -/
theorem de_gint {x : Str} {i : Int} (hg : Gl X x) (hm : ∃ t, X.mg x = some (.int i t)) (hd : (x == ("__debug__" : Str)) = false := by decide) : DE X (.Name x pos) (xC (.int i)) := by
  obtain ⟨t, hm⟩ := hm
  exact de_const (.int i) (pe_glob (v := .int i) hg hm ⟨t, rfl⟩ hd) fun _ _ => by unfold RD; rfl

/-! ### two expressions, one after another -/
theorem two_run {F : Value → Value → Sem Value} {op : D → D → M D} (ha : DE X a f) (hb : DE X b g) {pins : List (Addr × Obj)} {s : Shared} {τ : L2.St} {H : Hp} {Q : VK} (I : Inv X pins τ H s)
    (hw : tD X.K (fun σ => bnd (f σ) fun x => bnd (g σ) fun y => op x y) τ H Q)
    (hop : ∀ (ι : List Addr) (h : Hd) (H : Hp) (x y : D) (d : D) (h' : Hd) (vx vy : V) (s : Shared) (u w : Value), Inv X pins τ H s → RelH X.K ι h H → RD X.K H ι x vx → RD X.K H ι y vy → RelV vx u → RelV vy w → op x y h = some (d, h') → Pst X.K ι H d h' Q →
      wpAny (model X.prog X.w) X.A (F u w) (EP X pins τ Q) X.xe s) :
    wpAny (model X.prog X.w) X.A (eval a X.env) (fun v s₁ => wpAny (model X.prog X.w) X.A (eval b X.env) (fun u s₂ => wpAny (model X.prog X.w) X.A (F v u) (EP X pins τ Q) X.xe s₂) X.xe s₁) X.xe s := by
  obtain ⟨ι, σ, h, d, h', S, ev, q⟩ := hw
  obtain ⟨x, h1, e1, ev⟩ := bnd_some ev
  obtain ⟨y, h2, e2, ev⟩ := bnd_some ev
  refine thn (ha.run pins s τ H (fun vx H1 => ∃ ι1, ι <+: ι1 ∧ RelH X.K ι1 h1 H1 ∧ RD X.K H1 ι1 x vx ∧ TExt X.K H H1) I ⟨ι, σ, h, x, h1, S, e1, fun ι1 v1 H1 p R r t => ⟨ι1, p, R, r, t⟩⟩) fun v s1 ⟨vx, H1, I1, rv, ι1, p1, R1, r1, t1⟩ => ?_
  refine thn (hb.run pins s1 τ H1 (fun vy H2 => ∃ ι2, ι1 <+: ι2 ∧ RelH X.K ι2 h2 H2 ∧ RD X.K H2 ι2 y vy ∧ TExt X.K H1 H2) I1 ⟨ι1, σ, h1, y, h2, S.step p1 R1 t1, e2, fun ι2 v2 H2 p R r t => ⟨ι2, p, R, r, t⟩⟩) fun u s2 ⟨vy, H2, I2, ru, ι2, p2, R2, r2, t2⟩ => ?_
  exact hop ι2 h2 H2 x y d h' vx vy s2 v u I2 R2 (r1.mono p2 t2) r2 rv ru ev (q.step (p1.trans p2) (t1.trans t2))
/-- what F does by values, op tells -/
def OpD (X : Cx) (F : Value → Value → Sem Value) (op : D → D → M D) : Prop :=
  ∀ (ι : List Addr) (h : Hd) (H : Hp) (x y d : D) (h' : Hd) (vx vy : V) (Q : VK), RelH X.K ι h H → RD X.K H ι x vx → RD X.K H ι y vy → op x y h = some (d, h') → Pst X.K ι H d h' Q → ∃ r : R2, OpR X F r ∧ r vx vy H Q
def xOp (op : D → D → M D) (f g : Ev → M D) : Ev → M D := fun σ => bnd (f σ) fun x => bnd (g σ) fun y => op x y
theorem de_op {o : Operator} {op : D → D → M D} (ho : OpD X (binaryOp o) op) (ha : DE X a f) (hb : DE X b g) : DE X (.BinOp a o b pos) (xOp op f g) :=
  ⟨fun pins s τ H Q I hw => wpAny_BinOp (two_run ha hb I hw fun ι h H x y d h' vx vy s u w I R rx ry ru rw ev q => by
    obtain ⟨r, hr, hq⟩ := ho ι h H x y d h' vx vy Q R rx ry ev q
    exact hr pins s τ H vx vy u w Q I ru rw hq)⟩
theorem de_cmp {o : CmpOp} {op : D → D → M D} (ho : OpD X (compareOp o) op) (ha : DE X a f) (hb : DE X b g) (hm : behindInMarks o b = false := by first | exact nomark _ | rfl) : DE X (.Compare a [o] [b] pos) (xOp op f g) :=
  ⟨fun pins s τ H Q I hw => wpAny_Compare1 (two_run ha hb I hw fun ι h H x y d h' vx vy s u w I R rx ry ru rw ev q => by
    obtain ⟨r, hr, hq⟩ := ho ι h H x y d h' vx vy Q R rx ry ev q
    exact hr pins s τ H vx vy u w Q I ru rw hq) hm⟩
/-- a value that is a bool -/
def isB : D → M Bool
  | .bl b => ret b
  | _ => bad
/-- a comparison as a test -/
def xCmpT (op : D → D → M D) (f g : Ev → M D) : Ev → M Bool := fun σ => bnd (f σ) fun x => bnd (g σ) fun y => bnd (op x y) isB
theorem dt_cmp {o : CmpOp} {op : D → D → M D} (ho : OpD X (compareOp o) op) (ha : DE X a f) (hb : DE X b g) (hm : behindInMarks o b = false := by first | exact nomark _ | rfl) : DT X (.Compare a [o] [b] pos) (xCmpT op f g) := by
  refine ⟨fun pins s τ H Q I hw => ?_⟩
  obtain ⟨ι, σ, h, d, h', S, ev, q⟩ := hw
  obtain ⟨x, h1, e1, ev⟩ := bnd_some ev
  obtain ⟨y, h2, e2, ev⟩ := bnd_some ev
  obtain ⟨z, h3, e3, ev⟩ := bnd_some ev
  have tr : z = .bl d ∧ h3 = h' := by
    cases z with
    | bl b => cases ev; exact ⟨rfl, rfl⟩
    | _ => cases ev
  obtain ⟨rfl, rfl⟩ := tr
  have hD : tD X.K (fun σ => bnd (f σ) fun x => bnd (g σ) fun y => op x y) τ H (fun v H' => v = .bl d ∧ Q d H') := by
    refine ⟨ι, σ, h, .bl d, h3, S, ?_, fun ι' v H' p R r t => ⟨by unfold RD at r; exact r, q ι' H' p R t⟩⟩
    unfold bnd
    simp only [e1, e2, e3]
  refine wpAny_isTrue_Compare1 (thn (two_run ha hb I hD fun ι h H x y d h' vx vy s u w I R rx ry ru rw ev q => by
    obtain ⟨r, hr, hq⟩ := ho ι h H x y d h' vx vy _ R rx ry ev q
    exact hr pins s τ H vx vy u w _ I ru rw hq) fun v s1 h1 => thn h1 fun u s2 h2 => thn h2 fun c s3 ⟨x, H1, I1, r1, e, q1⟩ => ?_) hm
  subst e
  cases r1
  exact wpAny_truthy_bool ⟨H1, I1, q1⟩

/-! ### one expression -/
theorem one_run {F : Value → Sem Value} {op : D → M D} (ha : DE X a f) {pins : List (Addr × Obj)} {s : Shared} {τ : L2.St} {H : Hp} {Q : VK} (I : Inv X pins τ H s)
    (hw : tD X.K (fun σ => bnd (f σ) op) τ H Q)
    (hop : ∀ (ι : List Addr) (h : Hd) (H : Hp) (x : D) (d : D) (h' : Hd) (vx : V) (s : Shared) (u : Value), Inv X pins τ H s → RelH X.K ι h H → RD X.K H ι x vx → RelV vx u → op x h = some (d, h') → Pst X.K ι H d h' Q →
      wpAny (model X.prog X.w) X.A (F u) (EP X pins τ Q) X.xe s) :
    wpAny (model X.prog X.w) X.A (eval a X.env) (fun v s₁ => wpAny (model X.prog X.w) X.A (F v) (EP X pins τ Q) X.xe s₁) X.xe s := by
  obtain ⟨ι, σ, h, d, h', S, ev, q⟩ := hw
  obtain ⟨x, h1, e1, ev⟩ := bnd_some ev
  refine thn (ha.run pins s τ H (fun vx H1 => ∃ ι1, ι <+: ι1 ∧ RelH X.K ι1 h1 H1 ∧ RD X.K H1 ι1 x vx ∧ TExt X.K H H1) I ⟨ι, σ, h, x, h1, S, e1, fun ι1 v1 H1 p R r t => ⟨ι1, p, R, r, t⟩⟩) fun v s1 ⟨vx, H1, I1, rv, ι1, p1, R1, r1, t1⟩ => ?_
  exact hop ι1 h1 H1 x d h' vx s1 v I1 R1 r1 rv ev (q.step p1 t1)
def xUn (op : D → M D) (f : Ev → M D) : Ev → M D := fun σ => bnd (f σ) op
def UnD (X : Cx) (F : Value → Sem Value) (op : D → M D) : Prop :=
  ∀ (ι : List Addr) (h : Hd) (H : Hp) (x d : D) (h' : Hd) (vx : V) (Q : VK), RelH X.K ι h H → RD X.K H ι x vx → op x h = some (d, h') → Pst X.K ι H d h' Q → ∃ r, UnR X F r ∧ r vx H Q
theorem de_un {o : UnaryOp} {op : D → M D} (ho : UnD X (unaryOp o) op) (ha : DE X a f) : DE X (.UnaryOp o a pos) (xUn op f) :=
  ⟨fun pins s τ H Q I hw => UnaryOp_ (one_run ha I hw fun ι h H x d h' vx s u I R rx ru ev q => by
    obtain ⟨r, hr, hq⟩ := ho ι h H x d h' vx Q R rx ev q
    exact hr pins s τ H vx u Q I ru hq)⟩

/-! ### truth -/
def truM (x : D) : M Bool := fun h => match x with
  | .non => some (false, h)
  | .bl b => some (b, h)
  | .int i => some (i != 0, h)
  | .str x => if (Str.ofString x).length ≤ LIM then some (((Str.ofString x).length : Int) != 0, h) else none
  | .tup xs => some (!xs.isEmpty, h)
  | .ref n => match h[n]? with
    | some (.lst xs) => some (!xs.isEmpty, h)
    | some (.ro xs) => some (!xs.isEmpty, h)
    | some (.dct kvs) => some (!kvs.isEmpty, h)
    | _ => none
theorem RDs.emp {K : PySem.W.Frag} {H : Hp} {ι : List Addr} {xs : List D} {vs : List V} (r : RDs K H ι xs vs) : xs.isEmpty = vs.isEmpty := by
  cases xs with
  | nil => rw [r.inv0]; rfl
  | cons x xs => obtain ⟨v, w, rfl, _⟩ := r.inv; rfl
theorem RKs.emp {κ : Type} {K : PySem.W.Frag} {H : Hp} {ι : List Addr} {xs : List (κ × D)} {vs : List (κ × V)} (r : RKs K H ι xs vs) : xs.isEmpty = vs.isEmpty := by
  cases xs with
  | nil => rw [show vs = [] from r]; rfl
  | cons x xs => obtain ⟨v, w, rfl, _⟩ := r; rfl
theorem RelH.ro {K : PySem.W.Frag} {ι : List Addr} {h : Hd} {H : Hp} {n : Nat} {xs : List D} {v : V} (R : RelH K ι h H) (e : h[n]? = some (.ro xs)) (r : RD K H ι (.ref n) v) : ∃ a vs, v = .ref a ∧ SqL K H a vs ∧ RDs K H ι xs vs := by
  unfold RD at r
  obtain ⟨a, i, rfl⟩ := r
  obtain ⟨vs, s, q⟩ := R.ok n _ a e i
  exact ⟨a, vs, rfl, s.sq, q⟩
theorem RelH.lst {K : PySem.W.Frag} {ι : List Addr} {h : Hd} {H : Hp} {n : Nat} {xs : List D} {v : V} (R : RelH K ι h H) (e : h[n]? = some (.lst xs)) (r : RD K H ι (.ref n) v) : ∃ a vs, v = .ref a ∧ ι[n]? = some a ∧ H a = some (.lst vs) ∧ RDs K H ι xs vs := by
  unfold RD at r
  obtain ⟨a, i, rfl⟩ := r
  obtain ⟨vs, s, q⟩ := R.ok n _ a e i
  exact ⟨a, vs, rfl, i, s, q⟩
theorem RelH.dct {K : PySem.W.Frag} {ι : List Addr} {h : Hd} {H : Hp} {n : Nat} {xs : List (Key × D)} {v : V} (R : RelH K ι h H) (e : h[n]? = some (.dct xs)) (r : RD K H ι (.ref n) v) : ∃ a vs, v = .ref a ∧ ι[n]? = some a ∧ H a = some (.dK vs) ∧ RKs K H ι xs vs := by
  unfold RD at r
  obtain ⟨a, i, rfl⟩ := r
  obtain ⟨vs, s, q⟩ := R.ok n _ a e i
  exact ⟨a, vs, rfl, i, s, q⟩
theorem RelH.ins {K : PySem.W.Frag} {ι : List Addr} {h : Hd} {H : Hp} {n : Nat} {c : String} {fs : List (String × D)} {v : V} (R : RelH K ι h H) (e : h[n]? = some (.ins c fs)) (r : RD K H ι (.ref n) v) : ∃ a dx vs, v = .ref a ∧ ι[n]? = some a ∧ H a = some (.ins (He.ga K (Str.ofString c)) dx vs) ∧ RFs K H ι fs vs := by
  unfold RD at r
  obtain ⟨a, i, rfl⟩ := r
  obtain ⟨dx, vs, s, q⟩ := R.ok n _ a e i
  exact ⟨a, dx, vs, rfl, i, s, q⟩
theorem truM_ok {ι : List Addr} {h : Hd} {H : Hp} {x : D} {b : Bool} {h' : Hd} {vx : V} {Q : Bool → Hp → Prop} (R : RelH X.K ι h H) (rx : RD X.K H ι x vx) (ev : truM x h = some (b, h')) (q : PstB X.K ι H b h' Q) : ∃ k, TruV X.K vx H k ∧ Q k H := by
  cases x with
  | non => unfold RD at rx; subst rx; cases ev; exact ⟨_, rfl, q ι H (List.prefix_refl _) R TExt.rfl'⟩
  | bl b => unfold RD at rx; subst rx; cases ev; exact ⟨_, rfl, q ι H (List.prefix_refl _) R TExt.rfl'⟩
  | int i => unfold RD at rx; subst rx; cases ev; exact ⟨_, rfl, q ι H (List.prefix_refl _) R TExt.rfl'⟩
  | str z =>
    unfold RD at rx; subst rx
    dsimp only [truM] at ev
    split at ev
    · rename_i hz
      cases ev
      exact ⟨_, ⟨lim_line hz, rfl⟩, q ι H (List.prefix_refl _) R TExt.rfl'⟩
    · cases ev
  | tup xs =>
    unfold RD at rx
    obtain ⟨a, vs, rfl, s, r⟩ := rx
    cases ev
    exact ⟨_, .inr (.inl ⟨vs, s, by rw [r.emp]⟩), q ι H (List.prefix_refl _) R TExt.rfl'⟩
  | ref n =>
    dsimp only [truM] at ev
    split at ev
    · rename_i xs e
      cases ev
      obtain ⟨a, vs, rfl, _, s, r⟩ := R.lst e rx
      exact ⟨_, .inl ⟨vs, SqL.of s, by rw [r.emp]⟩, q ι H (List.prefix_refl _) R TExt.rfl'⟩
    · rename_i xs e
      cases ev
      obtain ⟨a, vs, rfl, s, r⟩ := R.ro e rx
      exact ⟨_, .inl ⟨vs, s, by rw [r.emp]⟩, q ι H (List.prefix_refl _) R TExt.rfl'⟩
    · rename_i xs e
      cases ev
      obtain ⟨a, vs, rfl, _, s, r⟩ := R.dct e rx
      exact ⟨_, .inr (.inr ⟨vs, s, by rw [r.emp]⟩), q ι H (List.prefix_refl _) R TExt.rfl'⟩
    · cases ev
def xTru (f : Ev → M D) : Ev → M Bool := fun σ => bnd (f σ) truM
/-- a name, a call, a field .. as a test -/
theorem dt_val (ha : DE X a f) (he : ∀ whole, isTrue a X.env whole = (do let v ← whole; standAt a.pos; holding [v] (truthy v)) := by intro _; rfl) : DT X a (xTru f) := by
  refine PT.le (pt_truth ha he) fun τ H Q ⟨ι, σ, h, d, h', S, ev, q⟩ => ?_
  obtain ⟨x, h1, e1, ev⟩ := bnd_some ev
  exact ⟨ι, σ, h, x, h1, S, e1, fun ι1 v1 H1 p R r t => truM_ok R r ev (q.step p t)⟩

/-! ### and, or, not -/
variable {tf tg : Ev → M Bool} {rest : List Expr}
theorem dw_and1 (ha : DT X a tf) : DW X (.BoolOp .And [a] pos) tf := pw_and1 ha
theorem dw_or1 (ha : DT X a tf) : DW X (.BoolOp .Or [a] pos) tf := pw_or1 ha
def xAndT (f g : Ev → M Bool) : Ev → M Bool := fun σ => bnd (f σ) fun b => if b = true then g σ else ret false
def xOrT (f g : Ev → M Bool) : Ev → M Bool := fun σ => bnd (f σ) fun b => if b = true then ret true else g σ
def xNotT (f : Ev → M Bool) : Ev → M Bool := fun σ => bnd (f σ) fun b => ret (!b)
theorem dw_and (ha : DT X a tf) (hb : DW X (.BoolOp .And (b :: rest) pos) tg) : DW X (.BoolOp .And (a :: b :: rest) pos) (xAndT tf tg) := by
  refine PW.le (pw_and ha hb) fun τ H Q ⟨ι, σ, h, d, h', S, ev, q⟩ => ?_
  obtain ⟨x, h1, e1, ev⟩ := bnd_some ev
  refine ⟨ι, σ, h, x, h1, S, e1, fun ι1 H1 p R t => ?_⟩
  cases x with
  | true => exact ⟨ι1, σ, h1, d, h', S.step p R t, ev, q.step p t⟩
  | false => cases ev; exact q ι1 H1 p R t
theorem dw_or (ha : DT X a tf) (hb : DW X (.BoolOp .Or (b :: rest) pos) tg) : DW X (.BoolOp .Or (a :: b :: rest) pos) (xOrT tf tg) := by
  refine PW.le (pw_or ha hb) fun τ H Q ⟨ι, σ, h, d, h', S, ev, q⟩ => ?_
  obtain ⟨x, h1, e1, ev⟩ := bnd_some ev
  refine ⟨ι, σ, h, x, h1, S, e1, fun ι1 H1 p R t => ?_⟩
  cases x with
  | false => exact ⟨ι1, σ, h1, d, h', S.step p R t, ev, q.step p t⟩
  | true => cases ev; exact q ι1 H1 p R t
theorem dt_w (h : DW X a tf) : DT X a tf := PW.pt h
theorem dt_not (ha : DT X a tf) : DT X (.UnaryOp .Not a pos) (xNotT tf) := by
  refine PT.le (pt_not ha) fun τ H Q ⟨ι, σ, h, d, h', S, ev, q⟩ => ?_
  obtain ⟨x, h1, e1, ev⟩ := bnd_some ev
  cases ev
  exact ⟨ι, σ, h, x, _, S, e1, fun ι1 H1 p R t => q ι1 H1 p R t⟩
/-- as values: bools alone -/
def xAndV (f g : Ev → M D) : Ev → M D := fun σ => bnd (f σ) fun x => bnd (isB x) fun b => if b = true then g σ else ret (.bl false)
def xOrV (f g : Ev → M D) : Ev → M D := fun σ => bnd (f σ) fun x => bnd (isB x) fun b => if b = true then ret (.bl true) else g σ
def xNotV (f : Ev → M D) : Ev → M D := fun σ => bnd (f σ) fun x => bnd (isB x) fun b => ret (.bl (!b))
theorem isB_some {x : D} {h h' : Hd} {b : Bool} (e : isB x h = some (b, h')) : x = .bl b ∧ h' = h := by
  cases x with
  | bl c => cases e; exact ⟨rfl, rfl⟩
  | _ => cases e
theorem RD.bl {K : PySem.W.Frag} {H : Hp} {ι : List Addr} {b : Bool} : RD K H ι (.bl b) (.bl b) := by unfold RD; rfl
theorem RD.int {K : PySem.W.Frag} {H : Hp} {ι : List Addr} {b : Int} : RD K H ι (.int b) (.int b) := by unfold RD; rfl
theorem RD.str {K : PySem.W.Frag} {H : Hp} {ι : List Addr} {b : String} : RD K H ι (.str b) (.str (Str.ofString b)) := by unfold RD; rfl
theorem RD.non {K : PySem.W.Frag} {H : Hp} {ι : List Addr} : RD K H ι .non .non := by unfold RD; rfl
theorem RD.bl_inv {K : PySem.W.Frag} {H : Hp} {ι : List Addr} {b : Bool} {v : V} (r : RD K H ι (.bl b) v) : v = .bl b := by unfold RD at r; exact r
theorem RD.int_inv {K : PySem.W.Frag} {H : Hp} {ι : List Addr} {b : Int} {v : V} (r : RD K H ι (.int b) v) : v = .int b := by unfold RD at r; exact r
theorem RD.str_inv {K : PySem.W.Frag} {H : Hp} {ι : List Addr} {b : String} {v : V} (r : RD K H ι (.str b) v) : v = .str (Str.ofString b) := by unfold RD at r; exact r
theorem RD.non_inv {K : PySem.W.Frag} {H : Hp} {ι : List Addr} {v : V} (r : RD K H ι .non v) : v = .non := by unfold RD at r; exact r
theorem RD.tup_inv {K : PySem.W.Frag} {H : Hp} {ι : List Addr} {xs : List D} {v : V} (r : RD K H ι (.tup xs) v) : ∃ a vs, v = .ref a ∧ SqT K H a vs ∧ RDs K H ι xs vs := by unfold RD at r; exact r
theorem RD.tup {K : PySem.W.Frag} {H : Hp} {ι : List Addr} {xs : List D} {a : Addr} {vs : List V} (s : SqT K H a vs) (r : RDs K H ι xs vs) : RD K H ι (.tup xs) (.ref a) := by unfold RD; exact ⟨a, vs, rfl, s, r⟩
theorem RD.ref {K : PySem.W.Frag} {H : Hp} {ι : List Addr} {n : Nat} {a : Addr} (e : ι[n]? = some a) : RD K H ι (.ref n) (.ref a) := by unfold RD; exact ⟨a, e, rfl⟩
theorem de_and1 {o : BoolOp} (ha : DE X a f) : DE X (.BoolOp o [a] pos) f := pe_one ha
theorem de_and (ha : DE X a f) (hb : DE X (.BoolOp .And (b :: rest) pos) g) : DE X (.BoolOp .And (a :: b :: rest) pos) (xAndV f g) := by
  refine PE.le (pe_and ha hb) fun τ H Q ⟨ι, σ, h, d, h', S, ev, q⟩ => ?_
  obtain ⟨x, h1, e1, ev⟩ := bnd_some ev
  obtain ⟨b, h2, e2, ev⟩ := bnd_some ev
  obtain ⟨rfl, rfl⟩ := isB_some e2
  refine ⟨ι, σ, h, _, _, S, e1, fun ι1 v1 H1 p R r t => ?_⟩
  obtain rfl := r.bl_inv
  refine ⟨b, rfl, ?_⟩
  cases b with
  | true => exact ⟨ι1, σ, _, d, h', S.step p R t, ev, q.step p t⟩
  | false => cases ev; exact q ι1 _ H1 p R RD.bl t
theorem de_or (ha : DE X a f) (hb : DE X (.BoolOp .Or (b :: rest) pos) g) : DE X (.BoolOp .Or (a :: b :: rest) pos) (xOrV f g) := by
  refine PE.le (pe_or ha hb) fun τ H Q ⟨ι, σ, h, d, h', S, ev, q⟩ => ?_
  obtain ⟨x, h1, e1, ev⟩ := bnd_some ev
  obtain ⟨b, h2, e2, ev⟩ := bnd_some ev
  obtain ⟨rfl, rfl⟩ := isB_some e2
  refine ⟨ι, σ, h, _, _, S, e1, fun ι1 v1 H1 p R r t => ?_⟩
  obtain rfl := r.bl_inv
  refine ⟨b, rfl, ?_⟩
  cases b with
  | false => exact ⟨ι1, σ, _, d, h', S.step p R t, ev, q.step p t⟩
  | true => cases ev; exact q ι1 _ H1 p R RD.bl t
theorem de_not (ha : DE X a f) : DE X (.UnaryOp .Not a pos) (xNotV f) := by
  refine PE.le (pe_not ha) fun τ H Q ⟨ι, σ, h, d, h', S, ev, q⟩ => ?_
  obtain ⟨x, h1, e1, ev⟩ := bnd_some ev
  obtain ⟨b, h2, e2, ev⟩ := bnd_some ev
  obtain ⟨rfl, rfl⟩ := isB_some e2
  cases ev
  refine ⟨ι, σ, h, _, _, S, e1, fun ι1 v1 H1 p R r t => ?_⟩
  obtain rfl := r.bl_inv
  exact ⟨b, rfl, q ι1 _ H1 p R RD.bl t⟩
/-- a if t else b -/
def xIf (t : Ev → M Bool) (f g : Ev → M D) : Ev → M D := fun σ => bnd (t σ) fun b => if b = true then f σ else g σ
theorem de_if (hc : DT X c tf) (ha : DE X a f) (hb : DE X b g) : DE X (.IfExp c a b pos) (xIf tf f g) := by
  refine PE.le (pe_ifExp hc ha hb) fun τ H Q ⟨ι, σ, h, d, h', S, ev, q⟩ => ?_
  obtain ⟨x, h1, e1, ev⟩ := bnd_some ev
  refine ⟨ι, σ, h, x, h1, S, e1, fun ι1 H1 p R t => ?_⟩
  cases x with
  | true => exact ⟨ι1, σ, h1, d, h', S.step p R t, ev, q.step p t⟩
  | false => exact ⟨ι1, σ, h1, d, h', S.step p R t, ev, q.step p t⟩

/-! ### argument lists, displays -/
def xNil : Ev → M (List D) := fun _ => ret []
def xCons (f : Ev → M D) (g : Ev → M (List D)) : Ev → M (List D) := fun σ => bnd (f σ) fun x => bnd (g σ) fun xs => ret (x :: xs)
variable {fs : Ev → M (List D)} {es : List Expr}
theorem da_nil : DA X [] xNil := PA.le pa_nil fun τ H Q ⟨ι, σ, h, d, h', S, ev, q⟩ => by
  cases ev
  exact q ι [] H (List.prefix_refl _) S.hp RDs.nil TExt.rfl'
theorem da_cons (ha : DE X e f) (hr : DA X es fs) (hs : starEach (e :: es) X.env = (false, eval e X.env) :: starEach es X.env := by rfl) : DA X (e :: es) (xCons f fs) := by
  refine PA.le (pa_cons ha hr hs) fun τ H Q ⟨ι, σ, h, d, h', S, ev, q⟩ => ?_
  obtain ⟨x, h1, e1, ev⟩ := bnd_some ev
  obtain ⟨xs, h2, e2, ev⟩ := bnd_some ev
  cases ev
  exact ⟨ι, σ, h, x, h1, S, e1, fun ι1 v1 H1 p R r t => ⟨ι1, σ, h1, xs, _, S.step p R t, e2, fun ι2 vs H2 p2 R2 rs t2 => q ι2 (v1 :: vs) H2 (p.trans p2) R2 (RDs.cons (r.mono p2 t2) rs) (t.trans t2)⟩⟩
def lay (c : Cell) : M D := fun h => some (.ref h.length, h ++ [c])
def xTup (g : Ev → M (List D)) : Ev → M D := fun σ => bnd (g σ) fun xs h => if xs.length ≤ LIM then some (.tup xs, h) else none
def xLst (g : Ev → M (List D)) : Ev → M D := fun σ => bnd (g σ) fun xs h => if xs.length ≤ LIM then some (.ref h.length, h ++ [.lst xs]) else none
theorem SqT.new {K : PySem.W.Frag} {H : Hp} {p : Addr} {vs : List V} : SqT K (upd H p (.tup vs)) p vs := SqT.of upd_same
/-- a new tuple is laid -/
theorem Pst.tup {K : PySem.W.Frag} {ι : List Addr} {h : Hd} {H : Hp} {xs : List D} {vs : List V} {Q : VK} (R : RelH K ι h H) (rs : RDs K H ι xs vs) (q : Pst K ι H (.tup xs) h Q) : ∀ p, H p = none → Q (.ref p) (upd H p (.tup vs)) := fun p hp =>
  q ι (.ref p) _ (List.prefix_refl _) (R.fresh hp) (RD.tup SqT.new (rs.mono (List.prefix_refl _) (TExt.upd hp))) (TExt.upd hp)
theorem Pst.lst {K : PySem.W.Frag} {ι : List Addr} {h : Hd} {H : Hp} {xs : List D} {vs : List V} {Q : VK} (R : RelH K ι h H) (rs : RDs K H ι xs vs) (q : Pst K ι H (.ref h.length) (h ++ [.lst xs]) Q) : ∀ p, H p = none → Q (.ref p) (upd H p (.lst vs)) := fun p hp =>
  q (ι ++ [p]) (.ref p) _ ⟨[p], rfl⟩ (R.alloc hp ⟨vs, upd_same, rs.mono ⟨[p], rfl⟩ (TExt.upd hp)⟩) (RD.ref (by rw [← R.len]; simp)) (TExt.upd hp)
theorem de_tup {k1 : Nat} (h : DA X es fs) : DE X (.Tuple es k1 pos) (xTup fs) := by
  refine PE.le (pe_tup h) fun τ H Q ⟨ι, σ, h, d, h', S, ev, q⟩ => ?_
  obtain ⟨xs, h1, e1, ev⟩ := bnd_some ev
  split at ev
  · rename_i hz
    cases ev
    exact ⟨ι, σ, h, xs, _, S, e1, fun ι1 vs H1 p R rs t => ⟨by rw [← rs.length]; exact lim_line hz, (q.step p t).tup R rs⟩⟩
  · cases ev
theorem de_lst (h : DA X es fs) : DE X (.List es pos) (xLst fs) := by
  refine PE.le (pe_lst h) fun τ H Q ⟨ι, σ, h, d, h', S, ev, q⟩ => ?_
  obtain ⟨xs, h1, e1, ev⟩ := bnd_some ev
  split at ev
  · rename_i hz
    cases ev
    exact ⟨ι, σ, h, xs, _, S, e1, fun ι1 vs H1 p R rs t => ⟨by rw [← rs.length]; exact lim_line hz, (q.step p t).lst R rs⟩⟩
  · cases ev
end
end Dt

set_option Elab.async false
set_option linter.all false
set_option autoImplicit false
set_option maxRecDepth 100000
/-! DtC: operators, comparisons, places, slices. -/
namespace Dt
open PySem PySem.Spec PyProof.Rows L2
/-- room for what the built-ins do -/
def Roomy (X : Cx) : Prop := X.A.units + 100 < cLine
theorem roomy {X : Cx} {k : Nat} (hr : Room k X.A) : Roomy X := by have := hr.un; unfold Roomy; omega
theorem Roomy.u1 {X : Cx} (h : Roomy X) : X.A.units + 1 < cLine := by unfold Roomy at h; omega
theorem Roomy.u64 {X : Cx} (h : Roomy X) : X.A.units + 64 < cLine := by unfold Roomy at h; omega
theorem Roomy.u65 {X : Cx} (h : Roomy X) : X.A.units + 65 < cLine := by unfold Roomy at h; omega

section
variable {K : PySem.W.Frag} {H : Hp} {ι : List Addr} {h : Hd} {Q : VK} {d : D} {v : V}
theorem Pst.now (q : Pst K ι H d h Q) (R : RelH K ι h H) (r : RD K H ι d v) : Q v H := q ι v H (List.prefix_refl _) R r TExt.rfl'
end

theorem RDs.nil_l {K : PySem.W.Frag} {H : Hp} {ι : List Addr} {xs : List D} (r : RDs K H ι xs []) : xs = [] := List.length_eq_zero_iff.mp r.length

/-! ### arithmetic -/
def addM (x y : D) : M D := fun h => match x, y with
  | .int i, .int j => some (.int (i + j), h)
  | .tup xs, .tup ys => if xs.length + ys.length ≤ LIM then some (.tup (xs ++ ys), h) else none
  | .ref a, .ref b => match h[a]?, h[b]? with
    | some (.lst xs), some (.lst ys) => if xs.length + ys.length ≤ LIM then some (.ref h.length, h ++ [.lst (xs ++ ys)]) else none
    | _, _ => none
  | _, _ => none
def subM (x y : D) : M D := fun h => match x, y with
  | .int i, .int j => some (.int (i - j), h)
  | _, _ => none
def mulM (x y : D) : M D := fun h => match x, y with
  | .int i, .int j => if (-18446744073709551616 < i ∧ i < 18446744073709551616) ∨ (-18446744073709551616 < j ∧ j < 18446744073709551616) then some (.int (i * j), h) else none
  | _, _ => none
def fdivM (x y : D) : M D := fun h => match x, y with
  | .int i, .int j => if 0 < j ∧ j < 1073741824 then some (.int (i / j), h) else none
  | _, _ => none
def modM (x y : D) : M D := fun h => match x, y with
  | .int i, .int j => if 0 < j then some (.int (i % j), h) else none
  | _, _ => none
def powM (x y : D) : M D := fun h => match x, y with
  | .int i, .int j => if 0 ≤ j ∧ j ≤ 1000000 ∧ i.natAbs < 18446744073709551616 then some (.int (i ^ j.toNat), h) else none
  | _, _ => none
def negM (x : D) : M D := fun h => match x with
  | .int i => some (.int (-i), h)
  | _ => none
section
variable {X : Cx}
theorem o_add : OpD X (binaryOp .Add) addM := by
  intro ι h H x y d h' vx vy Q R rx ry ev q
  cases x <;> cases y <;> dsimp only [addM] at ev <;> try cases ev
  · -- ints
    obtain rfl := rx.int_inv
    obtain rfl := ry.int_inv
    exact ⟨_, op_add, _, _, rfl, rfl, q.now R RD.int⟩
  · obtain ⟨a, vs, rfl, s1, r1⟩ := rx.tup_inv
    obtain ⟨b, ws, rfl, s2, r2⟩ := ry.tup_inv
    split at ev
    · rename_i hz
      cases ev
      refine ⟨_, op_catA, a, b, vs, ws, rfl, rfl, s1, s2, by rw [← r1.length, ← r2.length]; exact lim_line hz, fun e => ?_, fun _ e => ?_, fun _ _ => ?_⟩
      · subst e
        refine q.now R (RD.tup s2 ?_)
        rw [r1.nil_l]
        exact r2
      · subst e
        refine q.now R (RD.tup s1 ?_)
        rw [r2.nil_l, List.append_nil]
        exact r1
      · exact q.tup R (r1.append r2)
    · cases ev
  · split at ev
    · rename_i xs ys e1 e2
      split at ev
      · rename_i hz
        cases ev
        obtain ⟨a, vs, rfl, _, s1, r1⟩ := R.lst e1 rx
        obtain ⟨b, ws, rfl, _, s2, r2⟩ := R.lst e2 ry
        exact ⟨_, op_cat, a, b, vs, ws, rfl, rfl, s1, s2, by rw [← r1.length, ← r2.length]; exact lim_line hz, q.lst R (r1.append r2)⟩
      · cases ev
    · cases ev
theorem o_sub : OpD X (binaryOp .Sub) subM := by
  intro ι h H x y d h' vx vy Q R rx ry ev q
  cases x <;> cases y <;> dsimp only [subM] at ev <;> try cases ev
  obtain rfl := rx.int_inv
  obtain rfl := ry.int_inv
  exact ⟨_, op_sub, _, _, rfl, rfl, q.now R RD.int⟩
theorem o_mul : OpD X (binaryOp .Mult) mulM := by
  intro ι h H x y d h' vx vy Q R rx ry ev q
  cases x <;> cases y <;> dsimp only [mulM] at ev <;> try cases ev
  obtain rfl := rx.int_inv
  obtain rfl := ry.int_inv
  split at ev
  · rename_i hz
    cases ev
    exact ⟨_, op_mul, _, _, rfl, rfl, hz, q.now R RD.int⟩
  · cases ev
theorem o_fdiv : OpD X (binaryOp .FloorDiv) fdivM := by
  intro ι h H x y d h' vx vy Q R rx ry ev q
  cases x <;> cases y <;> dsimp only [fdivM] at ev <;> try cases ev
  obtain rfl := rx.int_inv
  obtain rfl := ry.int_inv
  split at ev
  · rename_i hz
    cases ev
    exact ⟨_, op_fdiv, _, _, rfl, rfl, hz, q.now R RD.int⟩
  · cases ev
theorem o_mod : OpD X (binaryOp .Mod) modM := by
  intro ι h H x y d h' vx vy Q R rx ry ev q
  cases x <;> cases y <;> dsimp only [modM] at ev <;> try cases ev
  obtain rfl := rx.int_inv
  obtain rfl := ry.int_inv
  split at ev
  · rename_i hz
    cases ev
    exact ⟨_, op_mod, _, _, rfl, rfl, hz, q.now R RD.int⟩
  · cases ev
theorem o_pow : OpD X (binaryOp .Pow) powM := by
  intro ι h H x y d h' vx vy Q R rx ry ev q
  cases x <;> cases y <;> dsimp only [powM] at ev <;> try cases ev
  obtain rfl := rx.int_inv
  obtain rfl := ry.int_inv
  split at ev
  · rename_i hz
    cases ev
    exact ⟨_, op_pow, _, _, rfl, rfl, hz, q.now R RD.int⟩
  · cases ev
theorem o_neg : UnD X (unaryOp .USub) negM := by
  intro ι h H x d h' vx Q R rx ev q
  cases x <;> dsimp only [negM] at ev <;> try cases ev
  obtain rfl := rx.int_inv
  exact ⟨_, un_neg, _, rfl, q.now R RD.int⟩

/-! ### order of ints -/
def cmpM (p : Int → Int → Bool) (x y : D) : M D := fun h => match x, y with
  | .int i, .int j => some (.bl (p i j), h)
  | _, _ => none
abbrev ltM : D → D → M D := cmpM fun i j => decide (i < j)
abbrev leM : D → D → M D := cmpM fun i j => decide (i ≤ j)
abbrev gtM : D → D → M D := cmpM fun i j => decide (j < i)
abbrev geM : D → D → M D := cmpM fun i j => decide (j ≤ i)
theorem o_cmp {o : CmpOp} {p : Int → Int → Bool} (ho : OpR X (compareOp o) (rI0 fun i j => .bl (p i j))) : OpD X (compareOp o) (cmpM p) := by
  intro ι h H x y d h' vx vy Q R rx ry ev q
  cases x <;> cases y <;> dsimp only [cmpM] at ev <;> try cases ev
  obtain rfl := rx.int_inv
  obtain rfl := ry.int_inv
  exact ⟨_, ho, _, _, rfl, rfl, q.now R RD.bl⟩
theorem o_lt : OpD X (compareOp .Lt) ltM := o_cmp op_lt
theorem o_le : OpD X (compareOp .LtE) leM := o_cmp op_le
theorem o_gt : OpD X (compareOp .Gt) gtM := o_cmp op_gt
theorem o_ge : OpD X (compareOp .GtE) geM := o_cmp op_ge

/-! ### is -/
def isNonD : D → Bool
  | .non => true
  | _ => false
def isM (x y : D) : M D := fun h => match y with
  | .non => some (.bl (isNonD x), h)
  | .bl b => match x with
    | .bl a => some (.bl (a == b), h)
    | .non => some (.bl false, h)
    | _ => none
  | _ => none
def isntM (x y : D) : M D := fun h => match y with
  | .non => some (.bl (!isNonD x), h)
  | .bl b => match x with
    | .bl a => some (.bl (!(a == b)), h)
    | .non => some (.bl true, h)
    | _ => none
  | _ => none
theorem op_none_bl : OpR X (compareOp .Is) (fun x y H Q => x = .non ∧ (∃ b, y = .bl b) ∧ Q (.bl false) H) := by
  intro pins s σ H x y v u Q I rx ry h
  obtain ⟨rfl, ⟨b, rfl⟩, q⟩ := h
  cases (show v = Value.none from rx)
  cases (show u = Value.bool b from ry)
  exact wpAny_is_other rfl (fun z => nomatch z) ⟨.bl false, H, I, rfl, q⟩
theorem op_none_nbl : OpR X (compareOp .IsNot) (fun x y H Q => x = .non ∧ (∃ b, y = .bl b) ∧ Q (.bl true) H) := by
  intro pins s σ H x y v u Q I rx ry h
  obtain ⟨rfl, ⟨b, rfl⟩, q⟩ := h
  cases (show v = Value.none from rx)
  cases (show u = Value.bool b from ry)
  exact wpAny_isNot_other rfl (fun z => nomatch z) ⟨.bl true, H, I, rfl, q⟩
theorem RD.isNon {K : PySem.W.Frag} {H : Hp} {ι : List Addr} {x : D} {v : V} (r : RD K H ι x v) : decide (v = .non) = isNonD x := by
  cases x with
  | non => rw [r.non_inv]; rfl
  | bl b => rw [r.bl_inv]; rfl
  | int b => rw [r.int_inv]; rfl
  | str b => rw [r.str_inv]; rfl
  | tup xs => obtain ⟨a, vs, rfl, _⟩ := r.tup_inv; rfl
  | ref n => unfold RD at r; obtain ⟨a, _, rfl⟩ := r; rfl
theorem o_is : OpD X (compareOp .Is) isM := by
  intro ι h H x y d h' vx vy Q R rx ry ev q
  cases y <;> dsimp only [isM] at ev <;> try cases ev
  · obtain rfl := ry.non_inv
    refine ⟨_, op_isN, rfl, q.now R ?_⟩
    rw [rx.isNon]
    exact RD.bl
  · obtain rfl := ry.bl_inv
    cases x <;> dsimp only at ev <;> try cases ev
    · obtain rfl := rx.non_inv
      exact ⟨_, op_none_bl, rfl, ⟨_, rfl⟩, q.now R RD.bl⟩
    · obtain rfl := rx.bl_inv
      refine ⟨_, op_isBl, _, _, rfl, rfl, q.now R ?_⟩
      rw [← Bool.beq_eq_decide_eq]
      exact RD.bl
theorem o_isnt : OpD X (compareOp .IsNot) isntM := by
  intro ι h H x y d h' vx vy Q R rx ry ev q
  cases y <;> dsimp only [isntM] at ev <;> try cases ev
  · obtain rfl := ry.non_inv
    refine ⟨_, op_notN, rfl, q.now R ?_⟩
    rw [rx.isNon]
    exact RD.bl
  · obtain rfl := ry.bl_inv
    cases x <;> dsimp only at ev <;> try cases ev
    · obtain rfl := rx.non_inv
      exact ⟨_, op_none_nbl, rfl, ⟨_, rfl⟩, q.now R RD.bl⟩
    · obtain rfl := rx.bl_inv
      refine ⟨_, op_notBl, _, _, rfl, rfl, q.now R ?_⟩
      rw [← Bool.beq_eq_decide_eq]
      exact RD.bl
end

/-! ### == by data -/
mutual
/-- a value as data, lists read off the cells -/
def toPy (h : Hd) : Nat → D → Option PyData
  | 0, _ => none
  | n + 1, x => match x with
    | .non => some .none
    | .bl b => some (.bool b)
    | .int i => some (.int i)
    | .str z => some (.str (Str.ofString z))
    | .tup xs => (toPys h n xs).map .tuple
    | .ref k => match h[k]? with
      | some (.lst xs) => (toPys h n xs).map .list
      | _ => none
def toPys (h : Hd) : Nat → List D → Option (List PyData)
  | 0, _ => none
  | n + 1, xs => match xs with
    | [] => some []
    | x :: xs => match toPy h n x, toPys h n xs with
      | some p, some ps => some (p :: ps)
      | _, _ => none
end
section
variable {K : PySem.W.Frag} {H : Hp} {ι : List Addr} {h : Hd}
theorem toPy_ok (R : RelH K ι h H) : ∀ (n : Nat), (∀ (x : D) (v : V) (p : PyData), RD K H ι x v → toPy h n x = some p → Dp K H v p) ∧ (∀ (xs : List D) (vs : List V) (ps : List PyData), RDs K H ι xs vs → toPys h n xs = some ps → DpAll K H vs ps)
  | 0 => ⟨fun x v p _ e => by simp [toPy] at e, fun x v p _ e => by simp [toPys] at e⟩
  | n + 1 => by
    obtain ⟨i1, i2⟩ := toPy_ok R n
    refine ⟨fun x v p r e => ?_, fun xs vs ps r e => ?_⟩
    · cases x with
      | non => simp only [toPy] at e; cases e; rw [r.non_inv]; exact .non
      | bl b => simp only [toPy] at e; cases e; rw [r.bl_inv]; exact .bl b
      | int b => simp only [toPy] at e; cases e; rw [r.int_inv]; exact .int b
      | str b => simp only [toPy] at e; cases e; rw [r.str_inv]; exact .str _
      | tup xs =>
        simp only [toPy] at e
        obtain ⟨ps, e1, rfl⟩ := Option.map_eq_some_iff.mp e
        obtain ⟨a, vs, rfl, s, rs⟩ := r.tup_inv
        exact .tup s (i2 xs vs ps rs e1)
      | ref k =>
        simp only [toPy] at e
        split at e
        · rename_i xs e0
          obtain ⟨ps, e1, rfl⟩ := Option.map_eq_some_iff.mp e
          obtain ⟨a, vs, rfl, _, s, rs⟩ := R.lst e0 r
          exact .lst (SqL.of s) (i2 xs vs ps rs e1)
        · cases e
    · cases xs with
      | nil => simp only [toPys] at e; cases e; rw [r.inv0]; exact .nil
      | cons x xs =>
        simp only [toPys] at e
        obtain ⟨v, w, rfl, r1, r2⟩ := r.inv
        split at e
        · rename_i p ps e1 e2
          cases e
          exact .cons (i1 x v p r1 e1) (i2 xs w ps r2 e2)
        · cases e
end
/-- enough turns for all that is laid -/
abbrev DEEP : Nat := 400
def eqM (x y : D) : M D := fun h => match toPy h DEEP x, toPy h DEEP y with
  | some p, some q => if SeqAt.shaped p = true ∧ SeqAt.shaped q = true then some (.bl (PyData.eqv p q), h) else none
  | _, _ => none
def neM (x y : D) : M D := fun h => match toPy h DEEP x, toPy h DEEP y with
  | some p, some q => if SeqAt.shaped p = true ∧ SeqAt.shaped q = true then some (.bl (!PyData.eqv p q), h) else none
  | _, _ => none
section
variable {X : Cx}
theorem o_eq (hu : Roomy X) : OpD X (compareOp .Eq) eqM := by
  intro ι h H x y d h' vx vy Q R rx ry ev q
  unfold eqM at ev
  split at ev
  · rename_i p p2 e1 e2
    split at ev
    · rename_i hs
      cases ev
      exact ⟨_, op_eqD hu.u64, p, p2, (toPy_ok R _).1 x vx p rx e1, (toPy_ok R _).1 y vy p2 ry e2, hs.1, hs.2, q.now R RD.bl⟩
    · cases ev
  · cases ev
theorem o_ne (hu : Roomy X) : OpD X (compareOp .NotEq) neM := by
  intro ι h H x y d h' vx vy Q R rx ry ev q
  unfold neM at ev
  split at ev
  · rename_i p p2 e1 e2
    split at ev
    · rename_i hs
      cases ev
      exact ⟨_, op_neD hu.u64, p, p2, (toPy_ok R _).1 x vx p rx e1, (toPy_ok R _).1 y vy p2 ry e2, hs.1, hs.2, q.now R RD.bl⟩
    · cases ev
  · cases ev
end

/-! ### in -/
def keyOf : D → Option Key
  | .int i => some (.inl i)
  | .str x => some (.inr (Str.ofString x))
  | _ => none
def keysOf : List D → Option (List Key)
  | [] => some []
  | x :: xs => match keyOf x, keysOf xs with
    | some k, some ks => some (k :: ks)
    | _, _ => none
def look {κ : Type} [DecidableEq κ] (k : κ) : List (κ × D) → Option D
  | [] => none
  | p :: r => if p.1 = k then some p.2 else look k r
def flatD : D → Bool
  | .non => true
  | .bl _ => true
  | .int _ => true
  | .str _ => true
  | _ => false
/-- == of flat values -/
def eqF : D → D → Bool
  | .non, .non => true
  | .bl a, .bl b => a == b
  | .bl a, .int b => (if a then 1 else 0) == b
  | .int a, .bl b => a == (if b then 1 else 0)
  | .int a, .int b => a == b
  | .str a, .str b => a == b
  | _, _ => false
section
variable {K : PySem.W.Frag} {H : Hp} {ι : List Addr}
theorem keyOf_ok {x : D} {k : Key} {v : V} (e : keyOf x = some k) (r : RD K H ι x v) : v = kV k := by
  cases x <;> simp only [keyOf] at e <;> cases e
  · exact r.int_inv
  · exact r.str_inv
theorem keysOf_ok : ∀ {xs : List D} {ks : List Key} {vs : List V}, keysOf xs = some ks → RDs K H ι xs vs → vs = ks.map kV
  | [], ks, vs, e, r => by simp only [keysOf] at e; cases e; exact r.inv0
  | x :: xs, ks, vs, e, r => by
    simp only [keysOf] at e
    obtain ⟨v, w, rfl, r1, r2⟩ := r.inv
    split at e
    · rename_i k ks' e1 e2
      cases e
      rw [keyOf_ok e1 r1, keysOf_ok e2 r2]; rfl
    · cases e
theorem look_ok {κ : Type} [DecidableEq κ] {k : κ} : ∀ {kvs : List (κ × D)} {vs : List (κ × V)}, RKs K H ι kvs vs → (∀ d, look k kvs = some d → ∃ v, valV vs k = some v ∧ RD K H ι d v) ∧ (look k kvs = none → valV vs k = none)
  | [], vs, r => by
    have : vs = [] := r
    subst this
    exact ⟨fun d e => by simp [look] at e, fun _ => rfl⟩
  | p :: kvs, vs, r => by
    obtain ⟨v, w, rfl, r1, r2⟩ := r
    obtain ⟨i1, i2⟩ := look_ok (k := k) r2
    by_cases hk : p.1 = k
    · refine ⟨fun d e => ?_, fun e => ?_⟩
      · simp only [look, if_pos hk] at e; cases e
        exact ⟨v, valV_pos (p := (p.1, v)) hk, r1⟩
      · simp only [look, if_pos hk] at e; cases e
    · refine ⟨fun d e => ?_, fun e => ?_⟩
      · simp only [look, if_neg hk] at e
        obtain ⟨u, h1, h2⟩ := i1 d e
        exact ⟨u, by rw [valV_neg (p := (p.1, v)) hk]; exact h1, h2⟩
      · simp only [look, if_neg hk] at e
        rw [valV_neg (p := (p.1, v)) hk]; exact i2 e
theorem look_some {κ : Type} [DecidableEq κ] {k : κ} {kvs : List (κ × D)} {vs : List (κ × V)} (r : RKs K H ι kvs vs) : (look k kvs).isSome = (valV vs k).isSome := by
  obtain ⟨i1, i2⟩ := look_ok (k := k) r
  cases e : look k kvs with
  | none => rw [i2 e]; rfl
  | some d => obtain ⟨v, h1, _⟩ := i1 d e; rw [h1]; rfl
theorem flatD_ok {x : D} {v : V} (f : flatD x = true) (r : RD K H ι x v) : flatV v = true := by
  cases x <;> simp only [flatD] at f <;> try cases f
  · rw [r.non_inv]; rfl
  · rw [r.bl_inv]; rfl
  · rw [r.int_inv]; rfl
  · rw [r.str_inv]; rfl
theorem ofString_beq (s t : String) : (Str.ofString s == Str.ofString t) = (s == t) := by
  rw [Bool.eq_iff_iff, beq_iff_eq, beq_iff_eq]; exact ofString_eq_iff
theorem eqF_ok {x y : D} {v w : V} (f : flatD x = true) (g : flatD y = true) (r : RD K H ι x v) (s : RD K H ι y w) : eqV v w = eqF x y := by
  cases x <;> simp only [flatD] at f <;> try cases f
  all_goals cases y <;> simp only [flatD] at g <;> try cases g
  all_goals first | (rw [r.non_inv]) | (rw [r.bl_inv]) | (rw [r.int_inv]) | (rw [r.str_inv])
  all_goals first | (rw [s.non_inv]) | (rw [s.bl_inv]) | (rw [s.int_inv]) | (rw [s.str_inv])
  all_goals first | rfl | exact ofString_beq _ _
theorem allFlat : ∀ {xs : List D} {vs : List V}, RDs K H ι xs vs → xs.all flatD = true → vs.all flatV = true
  | [], vs, r, _ => by rw [r.inv0]; rfl
  | x :: xs, vs, r, f => by
    obtain ⟨v, w, rfl, r1, r2⟩ := r.inv
    rw [List.all_cons, Bool.and_eq_true] at f
    rw [List.all_cons, flatD_ok f.1 r1, allFlat r2 f.2]; rfl
theorem inF {x : D} {v : V} (fx : flatD x = true) (rx : RD K H ι x v) : ∀ {xs : List D} {vs : List V}, RDs K H ι xs vs → xs.all flatD = true → inV v vs = xs.any fun z => eqF z x
  | [], vs, r, _ => by rw [r.inv0]; rfl
  | y :: xs, vs, r, f => by
    obtain ⟨w, ws, rfl, r1, r2⟩ := r.inv
    rw [List.all_cons, Bool.and_eq_true] at f
    have ih := inF fx rx r2 f.2
    unfold inV at ih ⊢
    rw [List.any_cons, List.any_cons, ih, eqF_ok f.1 fx r1 rx]
end
/-- the items of a list or a tuple -/
def itemsOf (h : Hd) : D → Option (List D)
  | .tup xs => some xs
  | .ref n => match h[n]? with
    | some (.lst xs) => some xs
    | some (.ro xs) => some xs
    | _ => none
  | _ => none
def inB (h : Hd) (x y : D) : Option Bool := match itemsOf h y with
  | some xs => if flatD x = true ∧ xs.all flatD = true then some (xs.any fun z => eqF z x) else match y with
    | .ref _ => match toPy h DEEP x, toPy h DEEP y with
      | some d, some (.list ds) => if SeqAt.shaped d = true ∧ SeqAt.shaped (.list ds) = true then some (ds.any fun z => PyData.eqv z d) else none
      | _, _ => none
    | _ => none
  | none => match y with
    | .ref n => match h[n]? with
      | some (.dct kvs) => match keyOf x with
        | some k => some (look k kvs).isSome
        | none => none
      | _ => none
    | _ => none
def inM (x y : D) : M D := fun h => match inB h x y with
  | some b => some (.bl b, h)
  | none => none
def ninM (x y : D) : M D := fun h => match inB h x y with
  | some b => some (.bl (!b), h)
  | none => none
section
variable {X : Cx}
theorem itemsOf_ok {K : PySem.W.Frag} {ι : List Addr} {h : Hd} {H : Hp} {y : D} {v : V} {xs : List D} (R : RelH K ι h H) (e : itemsOf h y = some xs) (r : RD K H ι y v) : ∃ a vs, v = .ref a ∧ (SqL K H a vs ∨ SqT K H a vs) ∧ RDs K H ι xs vs := by
  cases y <;> simp only [itemsOf] at e <;> try cases e
  · obtain ⟨a, vs, rfl, s, rs⟩ := r.tup_inv
    exact ⟨a, vs, rfl, .inr s, rs⟩
  · split at e
    · rename_i e0
      cases e
      obtain ⟨a, vs, rfl, _, s, rs⟩ := R.lst e0 r
      exact ⟨a, vs, rfl, .inl (SqL.of s), rs⟩
    · rename_i e0
      cases e
      obtain ⟨a, vs, rfl, s, rs⟩ := R.ro e0 r
      exact ⟨a, vs, rfl, .inl s, rs⟩
    · cases e
theorem op_inDict (hu : Roomy X) : OpR X (compareOp .In) (fun y x H Q => ∃ a o, x = .ref a ∧ DGet H a y o ∧ Q (.bl o.isSome) H) := by
  intro pins s σ H x y v u Q I rx ry h
  obtain ⟨a, o, rfl, g, q⟩ := h
  obtain rfl : u = Value.ref a := ry
  exact d_in hu.u1 I g rx fun s3 I3 => ⟨.bl o.isSome, H, I3, rfl, q⟩
theorem op_ninDict (hu : Roomy X) : OpR X (compareOp .NotIn) (fun y x H Q => ∃ a o, x = .ref a ∧ DGet H a y o ∧ Q (.bl (!o.isSome)) H) := by
  intro pins s σ H x y v u Q I rx ry h
  obtain ⟨a, o, rfl, g, q⟩ := h
  obtain rfl : u = Value.ref a := ry
  exact d_notIn hu.u1 I g rx fun s3 I3 => ⟨.bl (!o.isSome), H, I3, rfl, q⟩
theorem inB_ok (hu : Roomy X) {ι : List Addr} {h : Hd} {H : Hp} {x y : D} {b : Bool} {vx vy : V} (R : RelH X.K ι h H) (rx : RD X.K H ι x vx) (ry : RD X.K H ι y vy) (ev : inB h x y = some b) :
    (∃ r, OpR X (compareOp .In) r ∧ ∀ Q : VK, Q (.bl b) H → r vx vy H Q) ∧ (∃ r, OpR X (compareOp .NotIn) r ∧ ∀ Q : VK, Q (.bl (!b)) H → r vx vy H Q) := by
  unfold inB at ev
  split at ev
  · rename_i xs e0
    obtain ⟨a, vs, rfl, s, rs⟩ := itemsOf_ok R e0 ry
    split at ev
    · rename_i hf
      cases ev
      have e1 := inF hf.1 rx rs hf.2
      refine ⟨⟨_, op_in_seq, fun Q q => ⟨a, vs, rfl, s, flatD_ok hf.1 rx, allFlat rs hf.2, ?_⟩⟩, ⟨_, op_notIn_seq, fun Q q => ⟨a, vs, rfl, s, flatD_ok hf.1 rx, allFlat rs hf.2, ?_⟩⟩⟩
      · rw [if_neg Bool.false_ne_true, e1]; exact q
      · rw [if_pos rfl, e1]; exact q
    · split at ev
      · rename_i n
        split at ev
        · rename_i d ds e1 e2
          split at ev
          · rename_i hs
            cases ev
            have q1 := (toPy_ok R _).1 x vx d rx e1
            have q2 := (toPy_ok R _).1 (.ref n) _ _ ry e2
            exact ⟨⟨_, op_inD hu.u65, fun Q q => ⟨d, ds, q1, q2, hs.1, hs.2, q⟩⟩, ⟨_, op_notInD hu.u65, fun Q q => ⟨d, ds, q1, q2, hs.1, hs.2, q⟩⟩⟩
          · cases ev
        · cases ev
      · cases ev
  · split at ev
    · rename_i n _
      split at ev
      · rename_i kvs e1
        split at ev
        · rename_i k e2
          cases ev
          obtain ⟨a, vs, rfl, _, s, rs⟩ := R.dct e1 ry
          obtain rfl := keyOf_ok e2 rx
          have e3 := look_some (k := k) rs
          exact ⟨⟨_, op_inDict hu, fun Q q => ⟨a, _, rfl, DGet.k s, by rw [← e3]; exact q⟩⟩, ⟨_, op_ninDict hu, fun Q q => ⟨a, _, rfl, DGet.k s, by rw [← e3]; exact q⟩⟩⟩
        · cases ev
      · cases ev
    · cases ev
theorem o_in (hu : Roomy X) : OpD X (compareOp .In) inM := by
  intro ι h H x y d h' vx vy Q R rx ry ev q
  unfold inM at ev
  split at ev
  · rename_i b e
    cases ev
    obtain ⟨⟨r, h1, h2⟩, _⟩ := inB_ok hu R rx ry e
    exact ⟨r, h1, h2 Q (q.now R RD.bl)⟩
  · cases ev
theorem o_nin (hu : Roomy X) : OpD X (compareOp .NotIn) ninM := by
  intro ι h H x y d h' vx vy Q R rx ry ev q
  unfold ninM at ev
  split at ev
  · rename_i b e
    cases ev
    obtain ⟨_, ⟨r, h1, h2⟩⟩ := inB_ok hu R rx ry e
    exact ⟨r, h1, h2 Q (q.now R RD.bl)⟩
  · cases ev
end
end Dt

set_option Elab.async false
set_option linter.all false
set_option autoImplicit false
set_option maxRecDepth 100000
/-! DtD: places, slices, statements, targets, loops, comprehensions. -/
namespace Dt
open PySem PySem.Spec PyProof.Rows L2

/-! ### x[i] -/
theorem RDs.atI {K : PySem.W.Frag} {H : Hp} {ι : List Addr} {xs : List D} {vs : List V} {i : Int} {d : D} (r : RDs K H ι xs vs) (e : L2.atI xs i = some d) : ∃ v, L2.atI vs i = some v ∧ RD K H ι d v := by
  unfold L2.atI at e ⊢
  rw [← r.length]
  cases q : ixN xs.length i with
  | none => rw [q] at e; cases e
  | some j =>
    rw [q] at e
    exact r.get e
def ixM (x i : D) : M D := fun h => match itemsOf h x with
  | some xs => match i with
    | .int k => match L2.atI xs k with
      | some d => some (d, h)
      | none => none
    | _ => none
  | none => match x with
    | .ref n => match h[n]? with
      | some (.dct kvs) => match keyOf i with
        | some k => match look k kvs with
          | some d => some (d, h)
          | none => none
        | none => none
      | _ => none
    | _ => none
section
variable {X : Cx} {a b e : Expr} {f g : Ev → M D} {pos p2 : Pos}
theorem de_ix (hu : Roomy X) (ha : DE X a f) (hb : DE X b g) (hs : PlainIx b := by exact fun _ _ => rfl) : DE X (.Subscript a b pos) (xOp ixM f g) := by
  refine ⟨fun pins s τ H Q I hw => Subscript_ (two_run (F := subscriptTail a b) ha hb I hw fun ι h H x y d h' vx vy s u w I R rx ry ru rw' ev q => ?_)⟩
  unfold ixM at ev
  split at ev
  · rename_i xs e0
    obtain ⟨p, vs, rfl, s1, rs⟩ := itemsOf_ok R e0 rx
    split at ev
    · rename_i k
      split at ev
      · rename_i d' e1
        cases ev
        obtain rfl := ry.int_inv
        obtain ⟨v, e2, r2⟩ := rs.atI e1
        rcases s1 with s1 | s1
        · exact ix_list a b pins s τ H _ _ u w Q I ru rw' ⟨p, vs, k, v, rfl, rfl, s1, e2, q.now R r2⟩ (hs _ _)
        · exact ix_tup a b pins s τ H _ _ u w Q I ru rw' ⟨p, vs, k, v, rfl, rfl, s1, e2, q.now R r2⟩ (hs _ _)
      · cases ev
    · cases ev
  · split at ev
    · rename_i n _
      split at ev
      · rename_i kvs e1
        split at ev
        · rename_i k e2
          split at ev
          · rename_i d' e3
            cases ev
            obtain ⟨p, vs, rfl, _, s1, rs⟩ := R.dct e1 rx
            obtain rfl := keyOf_ok e2 ry
            obtain ⟨v, e4, r4⟩ := (look_ok (k := k) rs).1 _ e3
            obtain rfl : u = Value.ref p := ru
            have g : DGet H p (kV k) (some v) := by rw [← e4]; exact DGet.k s1
            exact tail_any (dict_typeIs I g) PySem.F.slot_dict_getitem.lookup (d_getItem hu.u1 I g rw' fun w2 s3 I3 rw2 => ⟨v, H, I3, rw2, q.now R r4⟩) (hs _ _)
          · cases ev
        · cases ev
      · cases ev
    · cases ev

/-! ### slices -/
def xNoPart : Ev → M (Option Int) := fun _ => ret none
def xPart (f : Ev → M D) : Ev → M (Option Int) := fun σ => bnd (f σ) fun x h => match x with
  | .int i => some (some i, h)
  | _ => none
def tDO (K : PySem.W.Frag) (f : Ev → M (Option Int)) : TO := fun τ H Q => ∃ (ι : List Addr) (σ : Ev) (h : Hd) (d : Option Int) (h' : Hd), RelS K ι σ h τ H ∧ f σ h = some (d, h') ∧ ∀ (ι' : List Addr) (H' : Hp), ι <+: ι' → RelH K ι' h' H' → TExt K H H' → Q d H'
def DO (X : Cx) (e : Option Expr) (f : Ev → M (Option Int)) : Prop := PO X e (tDO X.K f)
theorem do_none : DO X none xNoPart := ⟨fun pins s τ H Q I ⟨ι, σ, h, d, h', S, ev, q⟩ => by
  cases ev
  exact po_none.run pins s τ H Q I (q ι H (List.prefix_refl _) S.hp TExt.rfl')⟩
theorem do_some (he : DE X e f) : DO X (some e) (xPart f) := ⟨fun pins s τ H Q I ⟨ι, σ, h, d, h', S, ev, q⟩ => by
  obtain ⟨x, h1, e1, ev⟩ := bnd_some ev
  refine (po_some he).run pins s τ H Q I ⟨ι, σ, h, x, h1, S, e1, fun ι1 v1 H1 p R r t => ?_⟩
  split at ev
  · rename_i i
    cases ev
    obtain rfl := r.int_inv
    exact ⟨i, rfl, q ι1 H1 p R t⟩
  · cases ev⟩
def cutD (xs : List D) (lo hi : Option Int) : List D := (xs.drop (HT.sIx xs.length 0 lo)).take (HT.sIx xs.length xs.length hi - HT.sIx xs.length 0 lo)
theorem RDs.cut {K : PySem.W.Frag} {H : Hp} {ι : List Addr} {xs : List D} {vs : List V} (r : RDs K H ι xs vs) (lo hi : Option Int) : RDs K H ι (cutD xs lo hi) (cutV vs lo hi) := by
  unfold cutD cutV
  rw [r.length]
  exact (r.drop _).take _
/-- the items of a list -/
def listOf (h : Hd) : D → Option (List D)
  | .ref n => match h[n]? with
    | some (.lst xs) => some xs
    | some (.ro xs) => some xs
    | _ => none
  | _ => none
theorem listOf_ok {K : PySem.W.Frag} {ι : List Addr} {h : Hd} {H : Hp} {y : D} {v : V} {xs : List D} (R : RelH K ι h H) (e : listOf h y = some xs) (r : RD K H ι y v) : ∃ a vs, v = .ref a ∧ SqL K H a vs ∧ RDs K H ι xs vs := by
  cases y <;> simp only [listOf] at e <;> try cases e
  split at e
  · rename_i e0
    cases e
    obtain ⟨a, vs, rfl, _, s, rs⟩ := R.lst e0 r
    exact ⟨a, vs, rfl, SqL.of s, rs⟩
  · rename_i e0
    cases e
    obtain ⟨a, vs, rfl, s, rs⟩ := R.ro e0 r
    exact ⟨a, vs, rfl, s, rs⟩
  · cases e
def slM (x : D) (lo hi : Option Int) : M D := fun h => match x with
  | .tup xs => some (.tup (cutD xs lo hi), h)
  | .ref n => match listOf h (.ref n) with
    | some xs => some (.ref h.length, h ++ [.lst (cutD xs lo hi)])
    | none => none
  | _ => none
def xSl (f : Ev → M D) (l u : Ev → M (Option Int)) : Ev → M D := fun σ => bnd (f σ) fun x => bnd (l σ) fun lo => bnd (u σ) fun hi => slM x lo hi
theorem cutD_whole {xs : List D} {lo hi : Option Int} (h : HT.sIx xs.length 0 lo = 0 ∧ HT.sIx xs.length xs.length hi = xs.length) : cutD xs lo hi = xs := by
  unfold cutD
  rw [h.1, h.2]
  simp
theorem de_slice {l u : Ev → M (Option Int)} {lo hi : Option Expr} (ha : DE X a f) (hl : DO X lo l) (hh : DO X hi u) : DE X (.Subscript a (.Slice lo hi none p2) pos) (xSl f l u) := by
  refine PE.le (pe_slice (r := fun x lo hi H Q => rSlL X.K x lo hi H Q ∨ rSlA X.K x lo hi H Q) (sl_list.or sl_tupA) ha hl hh) fun τ H Q ⟨ι, σ, h, d, h', S, ev, q⟩ => ?_
  obtain ⟨x, h1, e1, ev⟩ := bnd_some ev
  obtain ⟨i, h2, e2, ev⟩ := bnd_some ev
  obtain ⟨j, h3, e3, ev⟩ := bnd_some ev
  refine ⟨ι, σ, h, x, h1, S, e1, fun ι1 v1 H1 p1 R1 r1 t1 => ⟨ι1, σ, h1, i, h2, S.step p1 R1 t1, e2, fun ι2 H2 p2 R2 t2 => ⟨ι2, σ, h2, j, h3, (S.step p1 R1 t1).step p2 R2 t2, e3, fun ι3 H3 p3 R3 t3 => ?_⟩⟩⟩
  have r3 := r1.mono (p2.trans p3) (t2.trans t3)
  have q3 := q.step ((p1.trans p2).trans p3) ((t1.trans t2).trans t3)
  unfold slM at ev
  split at ev
  · rename_i xs
    cases ev
    obtain ⟨a, vs, rfl, s1, rs⟩ := r3.tup_inv
    refine .inr ⟨a, vs, rfl, s1, fun hz => ?_, fun _ => q3.tup R3 (rs.cut i j)⟩
    rw [← rs.length] at hz
    rw [cutD_whole hz] at q3
    exact q3.now R3 (RD.tup s1 rs)
  · split at ev
    · rename_i xs e0
      cases ev
      obtain ⟨a, vs, rfl, s1, rs⟩ := listOf_ok R3 e0 r3
      exact .inl ⟨a, vs, rfl, s1, q3.lst R3 (rs.cut i j)⟩
    · cases ev
  · cases ev
end

/-! ### statements -/
inductive Fl where
  | nx (σ : Ev) | rt (d : D) | bk (σ : Ev) | ct (σ : Ev)
def PstS (K : PySem.W.Frag) (ι : List Addr) (H : Hp) (σ : Ev) (h' : Hd) (N : L2.St → Hp → Prop) : Prop := ∀ (ι' : List Addr) (τ : L2.St) (H' : Hp), ι <+: ι' → RelS K ι' σ h' τ H' → TExt K H H' → N τ H'
def EndsOk (K : PySem.W.Frag) (ι : List Addr) (H : Hp) (r : Fl) (h' : Hd) (D : Ends) : Prop := match r with
  | .nx σ => PstS K ι H σ h' D.nx
  | .rt d => Pst K ι H d h' D.rt
  | .bk σ => PstS K ι H σ h' D.bk
  | .ct σ => PstS K ι H σ h' D.ct
theorem PstS.step {K : PySem.W.Frag} {ι ι1 : List Addr} {H H1 : Hp} {σ : Ev} {h' : Hd} {N : L2.St → Hp → Prop} (k : PstS K ι H σ h' N) (p : ι <+: ι1) (t : TExt K H H1) : PstS K ι1 H1 σ h' N :=
  fun ι' τ H' p' S t' => k ι' τ H' (p.trans p') S (t.trans t')
theorem EndsOk.step {K : PySem.W.Frag} {ι ι1 : List Addr} {H H1 : Hp} {r : Fl} {h' : Hd} {D : Ends} (k : EndsOk K ι H r h' D) (p : ι <+: ι1) (t : TExt K H H1) : EndsOk K ι1 H1 r h' D := by
  cases r with
  | nx σ => exact PstS.step k p t
  | rt d => exact Pst.step k p t
  | bk σ => exact PstS.step k p t
  | ct σ => exact PstS.step k p t
theorem PstS.now {K : PySem.W.Frag} {ι : List Addr} {H : Hp} {σ : Ev} {h' : Hd} {τ : L2.St} {N : L2.St → Hp → Prop} (k : PstS K ι H σ h' N) (S : RelS K ι σ h' τ H) : N τ H := k ι τ H (List.prefix_refl _) S TExt.rfl'
def tDS (K : PySem.W.Frag) (g : Ev → M Fl) : TS := fun D τ H => ∃ (ι : List Addr) (σ : Ev) (h : Hd) (r : Fl) (h' : Hd), RelS K ι σ h τ H ∧ g σ h = some (r, h') ∧ EndsOk K ι H r h' D
def DS (X : Cx) (st : Stmt) (g : Ev → M Fl) : Prop := PS X st (tDS X.K g)
def DSs (X : Cx) (st : List Stmt) (g : Ev → M Fl) : Prop := PSs X st (tDS X.K g)
theorem PS.le {X : Cx} {st : Stmt} {t t' : TS} (h : PS X st t) (w : ∀ D τ H, t' D τ H → t D τ H) : PS X st t' := ⟨fun pins s σ H D I q => h.run pins s σ H D I (w _ _ _ q)⟩
theorem PSs.le {X : Cx} {st : List Stmt} {t t' : TS} (h : PSs X st t) (w : ∀ D τ H, t' D τ H → t D τ H) : PSs X st t' := ⟨fun pins s σ H D I q => h.run pins s σ H D I (w _ _ _ q)⟩
section
variable {X : Cx} {st : Stmt} {rest : List Stmt} {g g2 : Ev → M Fl} {e : Expr} {f : Ev → M D} {pos : Pos}
def xPass : Ev → M Fl := fun σ => ret (.nx σ)
def xSeq (g g2 : Ev → M Fl) : Ev → M Fl := fun σ => bnd (g σ) fun r => match r with
  | .nx σ' => g2 σ'
  | .rt d => ret (.rt d)
  | .bk σ' => ret (.bk σ')
  | .ct σ' => ret (.ct σ')
theorem dss_nil : DSs X [] xPass := PSs.le pss_nil fun D τ H ⟨ι, σ, h, r, h', S, ev, q⟩ => by
  cases ev
  exact PstS.now q S
theorem ds_pass : DS X (.Pass pos) xPass := PS.le ps_pass fun D τ H ⟨ι, σ, h, r, h', S, ev, q⟩ => by
  cases ev
  exact PstS.now q S
def xBreak : Ev → M Fl := fun σ => ret (.bk σ)
def xCont : Ev → M Fl := fun σ => ret (.ct σ)
theorem ds_break : DS X (.Break pos) xBreak := PS.le ps_break fun D τ H ⟨ι, σ, h, r, h', S, ev, q⟩ => by
  cases ev
  exact PstS.now q S
theorem ds_cont : DS X (.Continue pos) xCont := PS.le ps_continue fun D τ H ⟨ι, σ, h, r, h', S, ev, q⟩ => by
  cases ev
  exact PstS.now q S
theorem dss_one (h : DS X st g) : DSs X [st] g := pss_one h
theorem dss_cons (h1 : DS X st g) (h2 : DSs X rest g2) : DSs X (st :: rest) (xSeq g g2) := PSs.le (pss_cons h1 h2) fun D τ H ⟨ι, σ, h, r, h', S, ev, q⟩ => by
  obtain ⟨r1, h1, e1, ev⟩ := bnd_some ev
  refine ⟨ι, σ, h, r1, h1, S, e1, ?_⟩
  cases r1 with
  | nx σ1 => exact fun ι1 τ1 H1 p S1 t => ⟨ι1, σ1, h1, r, h', S1, ev, q.step p t⟩
  | rt d => cases ev; exact q
  | bk σ1 => cases ev; exact q
  | ct σ1 => cases ev; exact q
def xDrop (f : Ev → M D) : Ev → M Fl := fun σ => bnd (f σ) fun _ => ret (.nx σ)
theorem ds_expr (he : DE X e f) (hs : swapsWith e none pos.line X.env = pure false := by rfl) : DS X (.Expr e pos) (xDrop f) := PS.le (ps_expr he hs) fun D τ H ⟨ι, σ, h, r, h', S, ev, q⟩ => by
  obtain ⟨x, h1, e1, ev⟩ := bnd_some ev
  cases ev
  exact ⟨ι, σ, h, x, _, S, e1, fun ι1 v1 H1 p R r t => q ι1 τ H1 p (S.step p R t) t⟩
def xRet (f : Ev → M D) : Ev → M Fl := fun σ => bnd (f σ) fun x => ret (.rt x)
theorem ds_ret (he : DE X e f) : DS X (.Return (some e) pos) (xRet f) := PS.le (ps_ret he) fun D τ H ⟨ι, σ, h, r, h', S, ev, q⟩ => by
  obtain ⟨x, h1, e1, ev⟩ := bnd_some ev
  cases ev
  exact ⟨ι, σ, h, x, _, S, e1, q⟩
def xRetN : Ev → M Fl := fun _ => ret (.rt .non)
theorem ds_retN : DS X (.Return none pos) xRetN := PS.le ps_retN fun D τ H ⟨ι, σ, h, r, h', S, ev, q⟩ => by
  cases ev
  exact Pst.now q S.hp RD.non
def xIfS (c : Ev → M Bool) (g g2 : Ev → M Fl) : Ev → M Fl := fun σ => bnd (c σ) fun b => if b = true then g σ else g2 σ
theorem ds_if {c : Expr} {a b : List Stmt} {tc : Ev → M Bool} (hc : DT X c tc) (ha : DSs X a g) (hb : DSs X b g2) : DS X (.If c a b pos) (xIfS tc g g2) := PS.le (ps_if hc ha hb) fun D τ H ⟨ι, σ, h, r, h', S, ev, q⟩ => by
  obtain ⟨x, h1, e1, ev⟩ := bnd_some ev
  refine ⟨ι, σ, h, x, h1, S, e1, fun ι1 H1 p R t => ?_⟩
  cases x with
  | true => exact ⟨ι1, σ, h1, r, h', S.step p R t, ev, q.step p t⟩
  | false => exact ⟨ι1, σ, h1, r, h', S.step p R t, ev, q.step p t⟩
/-- what is never come to (a raise) -/
theorem ds_bad : DS X st (fun _ => bad) := PS.le ps_never fun D τ H ⟨ι, σ, h, r, h', S, ev, q⟩ => by cases ev
theorem dss_bad {sts : List Stmt} : DSs X sts (fun _ => bad) := PSs.le pss_never fun D τ H ⟨ι, σ, h, r, h', S, ev, q⟩ => by cases ev
end

/-! ### targets -/
/-- the slots out of own stay -/
def OutS (own : List Nat) (τ τ' : L2.St) : Prop := τ'.length = τ.length ∧ ∀ j, j ∉ own → τ'[j]? = τ[j]?
theorem OutS.refl {own : List Nat} {τ : L2.St} : OutS own τ τ := ⟨rfl, fun _ _ => rfl⟩
theorem OutS.trans {own own2 : List Nat} {τ τ1 τ2 : L2.St} (a : OutS own τ τ1) (b : OutS own2 τ1 τ2) : OutS (own ++ own2) τ τ2 := ⟨b.1.trans a.1, fun j hj => by
  rw [List.mem_append, not_or] at hj
  exact (b.2 j hj.2).trans (a.2 j hj.1)⟩
def tDG (K : PySem.W.Frag) (own : List Nat) (t : D → Ev → M Ev) : TG := fun v τ H Q => ∃ (ι : List Addr) (σ : Ev) (h : Hd) (d : D) (σ' : Ev) (h' : Hd), RelS K ι σ h τ H ∧ RD K H ι d v ∧ t d σ h = some (σ', h') ∧ ∀ (ι' : List Addr) (τ' : L2.St) (H' : Hp), ι <+: ι' → RelS K ι' σ' h' τ' H' → TExt K H H' → OutS own τ τ' → Q τ' H'
def DG (X : Cx) (tg : Expr) (own : List Nat) (t : D → Ev → M Ev) : Prop := PG X tg (tDG X.K own t)
def tDGs (K : PySem.W.Frag) (own : List Nat) (t : List D → Ev → M Ev) : TGs := fun vs τ H Q => ∃ (ι : List Addr) (σ : Ev) (h : Hd) (ds : List D) (σ' : Ev) (h' : Hd), RelS K ι σ h τ H ∧ RDs K H ι ds vs ∧ t ds σ h = some (σ', h') ∧ ∀ (ι' : List Addr) (τ' : L2.St) (H' : Hp), ι <+: ι' → RelS K ι' σ' h' τ' H' → TExt K H H' → OutS own τ τ' → Q τ' H'
def DGs (X : Cx) (tgs : List Expr) (own : List Nat) (t : List D → Ev → M Ev) : Prop := PGs X tgs (tDGs X.K own t)
theorem PG.le {X : Cx} {e : Expr} {t t' : TG} (h : PG X e t) (w : ∀ v τ H Q, t' v τ H Q → t v τ H Q) : PG X e t' := ⟨fun pins s σ H v u Q I r q => h.run pins s σ H v u Q I r (w _ _ _ _ q)⟩
theorem PGs.le {X : Cx} {e : List Expr} {t t' : TGs} (h : PGs X e t) (w : ∀ v τ H Q, t' v τ H Q → t v τ H Q) : PGs X e t' := ⟨fun pins s σ H v u Q I r q => h.run pins s σ H v u Q I r (w _ _ _ _ q)⟩
section
variable {X : Cx} {e : Expr} {es : List Expr} {pos : Pos}
def gSet (i : Nat) : D → Ev → M Ev := fun d σ => ret (σ.set i (some d))
theorem dg_name (i : Nat) {x : Str} (hN : X.N.Nodup) (hi : X.N[i]? = some x := by rfl) (hx : Loc X.env.scope x := by first | exact Or.inl rfl | exact Or.inr rfl) (hf : X.fn x = true ∨ X.env.scope.names.lookup x = some .local := by first | exact .inl rfl | exact .inr rfl | assumption) : DG X (.Name x pos) [i] (gSet i) :=
  PG.le (pg_name hN hi hx hf) fun v τ H Q ⟨ι, σ, h, d, σ', h', S, rd, ev, q⟩ => by
    cases ev
    refine q ι _ H (List.prefix_refl _) ⟨S.hp, S.env.set rd i⟩ TExt.rfl' ⟨by rw [List.length_set], fun j hj => ?_⟩
    rw [List.getElem?_set_ne]
    intro z; subst z; exact hj (by simp)
def gsNil : List D → Ev → M Ev := fun ds σ h => match ds with
  | [] => some (σ, h)
  | _ => none
def gsCons (t : D → Ev → M Ev) (ts : List D → Ev → M Ev) : List D → Ev → M Ev := fun ds σ h => match ds with
  | [] => none
  | d :: ds => bnd (t d σ) (fun σ' => ts ds σ') h
theorem dgs_nil : DGs X [] [] gsNil := PGs.le pgs_nil fun v τ H Q ⟨ι, σ, h, d, σ', h', S, rd, ev, q⟩ => by
  cases d with
  | nil => cases ev; exact ⟨rd.inv0, q ι τ H (List.prefix_refl _) S TExt.rfl' OutS.refl⟩
  | cons d ds => cases ev
theorem dgs_cons {o1 o2 : List Nat} {t : D → Ev → M Ev} {ts : List D → Ev → M Ev} (h1 : DG X e o1 t) (h2 : DGs X es o2 ts) (hs : (assignEach (e :: es) X.env).map (·.2) = assign e X.env :: (assignEach es X.env).map (·.2) := by rfl) : DGs X (e :: es) (o1 ++ o2) (gsCons t ts) :=
  PGs.le (pgs_cons h1 h2 hs) fun v τ H Q ⟨ι, σ, h, d, σ', h', S, rd, ev, q⟩ => by
    cases d with
    | nil => cases ev
    | cons d ds =>
      obtain ⟨v, r, rfl, r1, r2⟩ := rd.inv
      obtain ⟨σ1, h1, e1, ev⟩ := bnd_some ev
      exact ⟨v, r, rfl, ι, σ, h, d, σ1, h1, S, r1, e1, fun ι1 τ1 H1 p S1 t O => ⟨ι1, σ1, h1, ds, σ', h', S1, r2.mono p t, ev, fun ι2 τ2 H2 p2 S2 t2 O2 => q ι2 τ2 H2 (p.trans p2) S2 (t.trans t2) (O.trans O2)⟩⟩
/-- a, b, .. = a tuple, a list -/
def gTupD (n : Nat) (ts : List D → Ev → M Ev) : D → Ev → M Ev := fun d σ h => match itemsOf h d with
  | some xs => if xs.length = n then ts xs σ h else none
  | none => none
theorem dg_tup {own : List Nat} {k n : Nat} {ts : List D → Ev → M Ev} (hc : X.calm = true) (h : DGs X es own ts) (hn : (assignEach es X.env).length = n := by rfl) (hst : (assignEach es X.env).findIdx? (·.1) = none := by rfl) : DG X (.Tuple es k pos) own (gTupD n ts) := by
  refine ⟨fun pins s τ H v u Q I r hw => ?_⟩
  obtain ⟨ι, σ, hh, d, σ', h', S, rd, ev, q⟩ := hw
  unfold gTupD at ev
  split at ev
  · rename_i xs e0
    split at ev
    · rename_i hl
      obtain ⟨a, vs, rfl, s1, rs⟩ := itemsOf_ok S.hp e0 rd
      have hl' : vs.length = n := rs.length.symm.trans hl
      rcases s1 with s1 | s1
      · exact (pg_unl (k := k) hc h hn hst).run pins s τ H _ u Q I r ⟨a, vs, rfl, s1, hl', ι, σ, hh, xs, σ', h', S, rs, ev, q⟩
      · exact (pg_tup (k := k) hc h hn hst).run pins s τ H _ u Q I r ⟨a, vs, rfl, s1, hl', ι, σ, hh, xs, σ', h', S, rs, ev, q⟩
    · cases ev
  · cases ev
/-! ### stores -/
variable {f : Ev → M D} {own : List Nat} {t : D → Ev → M Ev} {tg : Expr}
def xAsg (f : Ev → M D) (t : D → Ev → M Ev) : Ev → M Fl := fun σ => bnd (f σ) fun d => bnd (t d σ) fun σ' => ret (.nx σ')
theorem asg_le (K : PySem.W.Frag) (D : Ends) (τ : L2.St) (H : Hp) (hw : tDS K (xAsg f t) D τ H) : tAsg (tD K f) (tDG K own t) D τ H := by
  obtain ⟨ι, σ, h, r, h', S, ev, q⟩ := hw
  obtain ⟨x, h1, e1, ev⟩ := bnd_some ev
  obtain ⟨σ1, h2, e2, ev⟩ := bnd_some ev
  cases ev
  exact ⟨ι, σ, h, x, h1, S, e1, fun ι1 v1 H1 p1 R1 r1 t1 => ⟨ι1, σ, h1, x, σ1, _, S.step p1 R1 t1, r1, e2, fun ι2 τ2 H2 p2 S2 t2 _ => q ι2 τ2 H2 (p1.trans p2) S2 (t1.trans t2)⟩⟩
theorem ds_asg (he : DE X e f) (hg : DG X tg own t) (hs : swapsWithSole [tg] e pos.line X.env = pure false := by rfl) (hw : swappedStores [tg] e X.env = pure none := by rfl)
    (h1 : (assignEach [tg] X.env).map (·.2) = [assign tg X.env] := by rfl) : DS X (.Assign [tg] e pos) (xAsg f t) := PS.le (ps_asg he hg hs hw h1) fun D τ H h => asg_le X.K D τ H h
theorem ds_set (i : Nat) {x : Str} {pos' : Pos} (hN : X.N.Nodup) (he : DE X e f) (hi : X.N[i]? = some x := by rfl) (hx : Loc X.env.scope x := by first | exact Or.inl rfl | exact Or.inr rfl) (hs : swapsWith e (some (.Name x pos')) pos.line X.env = pure false := by rfl) (hf : X.fn x = true ∨ X.env.scope.names.lookup x = some .local := by first | exact .inl rfl | exact .inr rfl | assumption) :
    DS X (.Assign [.Name x pos'] e pos) (xAsg f (gSet i)) := PS.le (ps_set hN hi hx he hs hf) fun D τ H ⟨ι, σ, h, r, h', S, ev, q⟩ => by
  obtain ⟨x, h1, e1, ev⟩ := bnd_some ev
  obtain ⟨σ1, h2, e2, ev⟩ := bnd_some ev
  cases ev
  cases e2
  exact ⟨ι, σ, h, x, _, S, e1, fun ι1 v1 H1 p1 R1 r1 t1 => q ι1 _ H1 p1 ⟨R1, (S.env.mono p1 t1).set r1 i⟩ t1⟩
/-- a rule by what is found -/
def dynR (X : Cx) (F : Value → Value → Sem Value) : R2 := fun x y H Q => ∃ r : R2, OpR X F r ∧ r x y H Q
theorem dyn_ok {F : Value → Value → Sem Value} : OpR X F (dynR X F) := fun pins s σ H x y v u Q I rx ry ⟨_, hr, q⟩ => hr pins s σ H x y v u Q I rx ry q
/-- name op= e -/
def xAug (i : Nat) (f : Ev → M D) (op : D → D → M D) : Ev → M Fl := fun σ h => match σ[i]? with
  | some (some x) => bnd (f σ) (fun y => bnd (op x y) fun z => ret (.nx (σ.set i (some z)))) h
  | _ => none
theorem ds_aug (i : Nat) {x : Str} {o : Operator} {op : D → D → M D} {pos' : Pos} (hN : X.N.Nodup) (he : DE X e f) (ho : OpD X (inplaceOp o) op) (hi : X.N[i]? = some x := by rfl) (hx : Loc X.env.scope x := by first | exact Or.inl rfl | exact Or.inr rfl) (hf : X.fn x = true ∨ X.env.scope.names.lookup x = some .local := by first | exact .inl rfl | exact .inr rfl | assumption) :
    DS X (.AugAssign (.Name x pos') o e pos) (xAug i f op) := PS.le (ps_aug (ti := dynR X (inplaceOp o)) hN hi hx he dyn_ok hf) fun D τ H ⟨ι, σ, h, r, h', S, ev, q⟩ => by
  unfold xAug at ev
  split at ev
  · rename_i x0 ex
    obtain ⟨y, h1, e1, ev⟩ := bnd_some ev
    obtain ⟨z, h2, e2, ev⟩ := bnd_some ev
    cases ev
    obtain ⟨vx, e3, rx⟩ := S.env.at_ i _ ex
    refine ⟨vx, e3, ι, σ, h, y, h1, S, e1, fun ι1 vy H1 p1 R1 r1 t1 => ?_⟩
    exact ho ι1 h1 H1 x0 y z _ vx vy _ R1 (rx.mono p1 t1) r1 e2 fun ι2 vz H2 p2 R2 r2 t2 => q ι2 _ H2 (p1.trans p2) ⟨R2, ((S.env.mono p1 t1).mono p2 t2).set r2 i⟩ (t1.trans t2)
  · cases ev
def iaddM (x y : D) : M D := fun h => match x, y with
  | .int i, .int j => some (.int (i + j), h)
  | _, _ => none
theorem io_add : OpD X (inplaceOp .Add) iaddM := by
  intro ι h H x y d h' vx vy Q R rx ry ev q
  cases x <;> cases y <;> dsimp only [iaddM] at ev <;> try cases ev
  obtain rfl := rx.int_inv
  obtain rfl := ry.int_inv
  exact ⟨_, iop_add, _, _, rfl, rfl, q.now R RD.int⟩
theorem io_sub : OpD X (inplaceOp .Sub) subM := by
  intro ι h H x y d h' vx vy Q R rx ry ev q
  cases x <;> cases y <;> dsimp only [subM] at ev <;> try cases ev
  obtain rfl := rx.int_inv
  obtain rfl := ry.int_inv
  exact ⟨_, iop_sub, _, _, rfl, rfl, q.now R RD.int⟩
end

/-! ### what is walked -/
structure Src where
  item : Hd → Nat → Option (Option D)
  fuel : Nat
def SrcOk (K : PySem.W.Frag) (J : It) (ι : List Addr) (H0 : Hp) (s : Src) : Prop := ∀ (ι' : List Addr) (h : Hd) (H : Hp) (i : Nat), ι <+: ι' → RelH K ι' h H → TExt K H0 H →
  (s.item h i = some none → J.stop i H) ∧ ∀ d, s.item h i = some (some d) → J.go i H ∧ ∀ v H', J.yld i H v H' → RelH K ι' h H' ∧ RD K H' ι' d v ∧ TExt K H H'
def tDI (K : PySem.W.Frag) (s : Ev → M Src) : TI := fun τ H R => ∃ (ι : List Addr) (σ : Ev) (h : Hd) (src : Src) (h' : Hd), RelS K ι σ h τ H ∧ s σ h = some (src, h') ∧ ∀ (ι' : List Addr) (H' : Hp) (J : It), ι <+: ι' → RelH K ι' h' H' → TExt K H H' → SrcOk K J ι' H' src → R J H'
def DI (X : Cx) (tg iter : Expr) (s : Ev → M Src) : Prop := PI X tg iter (tDI X.K s)
theorem none_len {α : Type} {xs : List α} {i : Nat} (e : xs[i]? = none) : xs.length ≤ i := List.getElem?_eq_none_iff.mp e
section
variable {X : Cx} {tg e : Expr} {f : Ev → M D} {pos p : Pos} {es : List Expr} {fs : Ev → M (List D)}
/-- a list or tuple -/
def srcSeq (x : D) : M Src := fun h => match x with
  | .tup xs => some (⟨fun _ i => some xs[i]?, xs.length⟩, h)
  | .ref n => match listOf h (.ref n) with
    | some xs => some (⟨fun h i => match listOf h (.ref n) with
      | some xs => some xs[i]?
      | none => none, xs.length⟩, h)
    | none => none
  | _ => none
def xIter (f : Ev → M D) : Ev → M Src := fun σ => bnd (f σ) srcSeq
theorem srcTup_ok {K : PySem.W.Frag} {ι : List Addr} {H : Hp} {a : Addr} {xs : List D} {vs : List V} (s1 : SqT K H a vs) (rs : RDs K H ι xs vs) :
    SrcOk K (Itt K a) ι H ⟨fun _ i => some xs[i]?, xs.length⟩ := fun ι2 h2 H2 i p2 R2 t2 => by
  have rs2 := rs.mono p2 t2
  refine ⟨fun e => ⟨vs, t2 _ _ s1, by rw [← rs.length]; exact none_len (Option.some.inj e)⟩, fun d e => ?_⟩
  obtain ⟨v, e1, r⟩ := rs2.get (Option.some.inj e)
  refine ⟨⟨vs, v, t2 _ _ s1, e1⟩, fun x H' ⟨eh, hx⟩ => ?_⟩
  subst eh
  have := hx vs (t2 _ _ s1)
  rw [e1] at this
  cases this
  exact ⟨R2, r, TExt.rfl'⟩
theorem srcList_ok {K : PySem.W.Frag} {ι : List Addr} {H : Hp} {a : Addr} {n k : Nat} (i0 : ι[n]? = some a) :
    SrcOk K (Itl K a) ι H ⟨fun h i => match listOf h (.ref n) with
      | some xs => some xs[i]?
      | none => none, k⟩ := fun ι2 h2 H2 i p2 R2 t2 => by
  have rr : RD K H2 ι2 (.ref n) (.ref a) := RD.ref (getElem?_prefix p2 i0)
  refine ⟨fun e => ?_, fun d e => ?_⟩
  · dsimp only at e
    split at e
    · rename_i ys e0
      obtain ⟨a', vs, ea, s1, rs⟩ := listOf_ok R2 e0 rr
      cases ea
      exact ⟨vs, s1, by rw [← rs.length]; exact none_len (Option.some.inj e)⟩
    · cases e
  · dsimp only at e
    split at e
    · rename_i ys e0
      obtain ⟨a', vs, ea, s1, rs⟩ := listOf_ok R2 e0 rr
      cases ea
      obtain ⟨v, e1, r⟩ := rs.get (Option.some.inj e)
      refine ⟨⟨vs, v, s1, e1⟩, fun x H' ⟨eh, hx⟩ => ?_⟩
      subst eh
      have := hx vs s1
      rw [e1] at this
      cases this
      exact ⟨R2, r, TExt.rfl'⟩
    · cases e
theorem di_seq (he : DE X e f) : DI X tg e (xIter f) := by
  refine ⟨fun pins s τ H R I hw => ?_⟩
  obtain ⟨ι, σ, h, src, h', S, ev, q⟩ := hw
  obtain ⟨x, h1, e1, ev⟩ := bnd_some ev
  unfold srcSeq at ev
  split at ev
  · rename_i xs
    cases ev
    refine (pi_tup he).run pins s τ H R I ⟨ι, σ, h, .tup xs, _, S, e1, fun ι1 v1 H1 p1 R1 r1 t1 => ?_⟩
    obtain ⟨a, vs, rfl, s1, rs⟩ := r1.tup_inv
    exact ⟨a, rfl, ⟨vs, s1⟩, q ι1 H1 _ p1 R1 t1 (srcTup_ok s1 rs)⟩
  · rename_i n
    split at ev
    · rename_i xs e0
      cases ev
      refine (pi_list he).run pins s τ H R I ⟨ι, σ, h, .ref n, _, S, e1, fun ι1 v1 H1 p1 R1 r1 t1 => ?_⟩
      obtain ⟨a, vs, rfl, s1, rs⟩ := listOf_ok R1 e0 r1
      have i0 : ι1[n]? = some a := by
        unfold RD at r1
        obtain ⟨a', i0, ea⟩ := r1
        cases ea
        exact i0
      exact ⟨a, rfl, ⟨vs, s1⟩, q ι1 H1 _ p1 R1 t1 (srcList_ok i0)⟩
    · cases ev
  · cases ev
/-- range -/
def srcRange (lo : Int) (n : Nat) : Src := ⟨fun _ i => if i < n then some (some (.int (lo + (i : Int)))) else some none, n⟩
theorem srcRange_ok {K : PySem.W.Frag} {ι : List Addr} {H : Hp} {lo : Int} {n : Nat} : SrcOk K (Itr lo n) ι H (srcRange lo n) := fun ι2 h2 H2 i p2 R2 t2 => by
  unfold srcRange
  refine ⟨fun e => ?_, fun d e => ?_⟩
  · dsimp only at e
    split at e
    · cases e
    · rename_i hi; exact Nat.le_of_not_lt hi
  · dsimp only at e
    split at e
    · rename_i hi
      cases e
      refine ⟨hi, fun x H' ⟨eh, hx⟩ => ?_⟩
      subst eh hx
      exact ⟨R2, RD.int, TExt.rfl'⟩
    · cases e
def xRange1 (fs : Ev → M (List D)) : Ev → M Src := fun σ => bnd (fs σ) fun xs h => match xs with
  | [.int j] => if -4611686018427387904 ≤ j ∧ j < 4611686018427387904 then some (srcRange 0 j.toNat, h) else none
  | _ => none
def xRange2 (fs : Ev → M (List D)) : Ev → M Src := fun σ => bnd (fs σ) fun xs h => match xs with
  | [.int i, .int j] => if (-4611686018427387904 ≤ i ∧ i < 4611686018427387904) ∧ -4611686018427387904 ≤ j ∧ j < 4611686018427387904 then some (srcRange i (j - i).toNat, h) else none
  | _ => none
theorem di_range1 {a : Expr} (hg : Gl X "range") (hm : X.mg "range" = none) (ha : DA X [a] fs) (hs : starEach [a] X.env = [(false, eval a X.env)] := by rfl) : DI X tg (.Call (.Name "range" p) [a] [] pos) (xRange1 fs) := by
  refine ⟨fun pins s τ H R I ⟨ι, σ, h, src, h', S, ev, q⟩ => ?_⟩
  obtain ⟨xs, h1, e1, ev⟩ := bnd_some ev
  split at ev
  · rename_i j
    split at ev
    · rename_i hz
      cases ev
      refine (pi_range1 hg hm ha hs).run pins s τ H R I ⟨ι, σ, h, [.int j], _, S, e1, fun ι1 vs H1 p1 R1 r1 t1 => ?_⟩
      obtain ⟨v, w, rfl, r2, r3⟩ := r1.inv
      obtain rfl := r2.int_inv
      obtain rfl := r3.inv0
      exact ⟨j, rfl, hz.1, hz.2, q ι1 H1 _ p1 R1 t1 srcRange_ok⟩
    · cases ev
  · cases ev
theorem di_range2 {a b : Expr} (hg : Gl X "range") (hm : X.mg "range" = none) (ha : DA X [a, b] fs) (hs : starEach [a, b] X.env = [(false, eval a X.env), (false, eval b X.env)] := by rfl) (hs2 : starEach [b] X.env = [(false, eval b X.env)] := by rfl) : DI X tg (.Call (.Name "range" p) [a, b] [] pos) (xRange2 fs) := by
  refine ⟨fun pins s τ H R I ⟨ι, σ, h, src, h', S, ev, q⟩ => ?_⟩
  obtain ⟨xs, h1, e1, ev⟩ := bnd_some ev
  split at ev
  · rename_i i j
    split at ev
    · rename_i hz
      cases ev
      refine (pi_range2 hg hm ha hs hs2).run pins s τ H R I ⟨ι, σ, h, [.int i, .int j], _, S, e1, fun ι1 vs H1 p1 R1 r1 t1 => ?_⟩
      obtain ⟨v, w, rfl, r2, r3⟩ := r1.inv
      obtain ⟨v', w', rfl, r4, r5⟩ := r3.inv
      obtain rfl := r2.int_inv
      obtain rfl := r4.int_inv
      obtain rfl := r5.inv0
      exact ⟨i, j, rfl, ⟨hz.1.1, hz.1.2, hz.2.1, hz.2.2⟩, q ι1 H1 _ p1 R1 t1 srcRange_ok⟩
    · cases ev
  · cases ev
/-- reversed(a list) -/
def srcRev (x : D) : M Src := fun h => match x with
  | .ref n => match listOf h (.ref n) with
    | some xs => some (⟨fun h i => if i < xs.length then match listOf h (.ref n) with
      | some ys => match ys[xs.length - 1 - i]? with
        | some d => some (some d)
        | none => none
      | none => none else some none, xs.length⟩, h)
    | none => none
  | _ => none
def xRev (fs : Ev → M (List D)) : Ev → M Src := fun σ => bnd (fs σ) fun xs => match xs with
  | [x] => srcRev x
  | _ => bad
theorem di_rev {e : Expr} (hg : Gl X "reversed") (hm : X.mg "reversed" = none) (ha : DA X [e] fs) (hs : starEach [e] X.env = [(false, eval e X.env)] := by rfl) : DI X tg (.Call (.Name "reversed" p) [e] [] pos) (xRev fs) := by
  refine ⟨fun pins s τ H R I ⟨ι, σ, h, src, h', S, ev, q⟩ => ?_⟩
  obtain ⟨ds, h1, e1, ev⟩ := bnd_some ev
  split at ev
  · rename_i x
    unfold srcRev at ev
    split at ev
    · rename_i n
      split at ev
      · rename_i xs e0
        cases ev
        refine (pi_reversed hg hm ha hs).run pins s τ H R I ⟨ι, σ, h, _, _, S, e1, fun ι1 vs H1 p1 R1 r1 t1 => ?_⟩
        obtain ⟨v, w, rfl, r2, r3⟩ := r1.inv
        obtain rfl := r3.inv0
        obtain ⟨a, ws, rfl, s1, rs⟩ := listOf_ok R1 e0 r2
        have i0 : ι1[n]? = some a := by
          unfold RD at r2
          obtain ⟨a', i0, ea⟩ := r2
          cases ea
          exact i0
        refine ⟨a, ws, rfl, s1, q ι1 H1 _ p1 R1 t1 fun ι2 h2 H2 i p2 R2 t2 => ?_⟩
        have rr : RD X.K H2 ι2 (.ref n) (.ref a) := RD.ref (getElem?_prefix p2 i0)
        rw [← rs.length]
        refine ⟨fun e => ?_, fun d e => ?_⟩
        · dsimp only at e
          split at e
          · split at e
            · split at e
              · cases e
              · cases e
            · cases e
          · rename_i hi; exact Nat.le_of_not_lt hi
        · dsimp only at e
          split at e
          · rename_i hi
            split at e
            · rename_i ys e9
              split at e
              · rename_i d' e8
                cases e
                obtain ⟨a', us, ea, s2, rs2⟩ := listOf_ok R2 e9 rr
                cases ea
                obtain ⟨v, e7, r⟩ := rs2.get e8
                refine ⟨⟨hi, us, v, s2, e7⟩, fun x H' ⟨eh, hx⟩ => ?_⟩
                subst eh
                have := hx us s2
                rw [e7] at this
                cases this
                exact ⟨R2, r, TExt.rfl'⟩
              · cases e
            · cases e
          · cases e
      · cases ev
    · cases ev
  · cases ev
/-- enumerate(a list): pairs -/
def srcEnum (x : D) : M Src := fun h => match x with
  | .ref n => match listOf h (.ref n) with
    | some xs => some (⟨fun h i => match listOf h (.ref n) with
      | some ys => match ys[i]? with
        | some d => some (some (.tup [.int (i : Nat), d]))
        | none => some none
      | none => none, xs.length⟩, h)
    | none => none
  | _ => none
def xEnum (fs : Ev → M (List D)) : Ev → M Src := fun σ => bnd (fs σ) fun xs => match xs with
  | [x] => srcEnum x
  | _ => bad
theorem di_enum {elts : List Expr} {kk : Nat} {tpos : Pos} {e : Expr} (hg : Gl X "enumerate") (hm : X.mg "enumerate" = none) (ha : DA X [e] fs) (hs : starEach [e] X.env = [(false, eval e X.env)] := by rfl) : DI X (.Tuple elts kk tpos) (.Call (.Name "enumerate" p) [e] [] pos) (xEnum fs) := by
  refine ⟨fun pins s τ H R I ⟨ι, σ, h, src, h', S, ev, q⟩ => ?_⟩
  obtain ⟨ds, h1, e1, ev⟩ := bnd_some ev
  split at ev
  · rename_i x
    unfold srcEnum at ev
    split at ev
    · rename_i n
      split at ev
      · rename_i xs e0
        cases ev
        refine (pi_enum hg hm ha hs).run pins s τ H R I ⟨ι, σ, h, _, _, S, e1, fun ι1 vs H1 p1 R1 r1 t1 => ?_⟩
        obtain ⟨v, w, rfl, r2, r3⟩ := r1.inv
        obtain rfl := r3.inv0
        obtain ⟨a, ws, rfl, s1, rs⟩ := listOf_ok R1 e0 r2
        have i0 : ι1[n]? = some a := by
          unfold RD at r2
          obtain ⟨a', i0, ea⟩ := r2
          cases ea
          exact i0
        refine ⟨a, ws, rfl, s1, q ι1 H1 _ p1 R1 t1 fun ι2 h2 H2 i p2 R2 t2 => ?_⟩
        have rr : RD X.K H2 ι2 (.ref n) (.ref a) := RD.ref (getElem?_prefix p2 i0)
        refine ⟨fun e => ?_, fun d e => ?_⟩
        · dsimp only at e
          split at e
          · rename_i ys e9
            split at e
            · cases e
            · rename_i e8
              obtain ⟨a', us, ea, s2, rs2⟩ := listOf_ok R2 e9 rr
              cases ea
              exact ⟨us, s2, by rw [← rs2.length]; exact none_len e8⟩
          · cases e
        · dsimp only at e
          split at e
          · rename_i ys e9
            split at e
            · rename_i d' e8
              cases e
              obtain ⟨a', us, ea, s2, rs2⟩ := listOf_ok R2 e9 rr
              cases ea
              obtain ⟨v, e7, r⟩ := rs2.get e8
              refine ⟨⟨us, v, s2, e7⟩, fun z H' ⟨T, y, ez, hT, eh, hy⟩ => ?_⟩
              subst ez eh
              have := hy us s2
              rw [e7] at this
              cases this
              exact ⟨R2.fresh hT, RD.tup SqT.new ((RDs.cons RD.int (RDs.cons r RDs.nil)).mono (List.prefix_refl _) (TExt.upd hT)), TExt.upd hT⟩
            · cases e
          · cases e
      · cases ev
    · cases ev
  · cases ev
/-- zip of two lists: pairs -/
def srcZip (x y : D) : M Src := fun h => match x, y with
  | .ref n, .ref m => match listOf h (.ref n), listOf h (.ref m) with
    | some xs, some _ => some (⟨fun h i => match listOf h (.ref n), listOf h (.ref m) with
      | some xs, some ys => match xs[i]?, ys[i]? with
        | some d, some e => some (some (.tup [d, e]))
        | _, _ => some none
      | _, _ => none, xs.length⟩, h)
    | _, _ => none
  | _, _ => none
def xZip (fs : Ev → M (List D)) : Ev → M Src := fun σ => bnd (fs σ) fun xs => match xs with
  | [x, y] => srcZip x y
  | _ => bad
theorem di_zip {elts : List Expr} {kk : Nat} {tpos : Pos} {e e2 : Expr} (hg : Gl X "zip") (hm : X.mg "zip" = none) (ha : DA X [e, e2] fs) (hs : starEach [e, e2] X.env = (false, eval e X.env) :: starEach [e2] X.env := by rfl) (hpl : (backTo pos (starEach [e2] X.env)).any (·.1) = false := by rfl) :
    DI X (.Tuple elts kk tpos) (.Call (.Name "zip" p) [e, e2] [] pos) (xZip fs) := by
  refine ⟨fun pins s τ H R I ⟨ι, σ, h, src, h', S, ev, q⟩ => ?_⟩
  obtain ⟨ds, h1, e1, ev⟩ := bnd_some ev
  split at ev
  · rename_i x y
    unfold srcZip at ev
    split at ev
    · rename_i n m
      split at ev
      · rename_i xs zs e0 e00
        cases ev
        refine (pi_zip hg hm ha hs hpl).run pins s τ H R I ⟨ι, σ, h, _, _, S, e1, fun ι1 vs H1 p1 R1 r1 t1 => ?_⟩
        obtain ⟨v, w, rfl, r2, r3⟩ := r1.inv
        obtain ⟨v', w', rfl, r4, r5⟩ := r3.inv
        obtain rfl := r5.inv0
        obtain ⟨a, ws, rfl, s1, rs⟩ := listOf_ok R1 e0 r2
        obtain ⟨b, us, rfl, s2, rs2⟩ := listOf_ok R1 e00 r4
        have i0 : ι1[n]? = some a := by
          unfold RD at r2
          obtain ⟨a', i0, ea⟩ := r2
          cases ea
          exact i0
        have i1 : ι1[m]? = some b := by
          unfold RD at r4
          obtain ⟨a', i0, ea⟩ := r4
          cases ea
          exact i0
        refine ⟨a, b, ws, us, rfl, s1, s2, q ι1 H1 _ p1 R1 t1 fun ι2 h2 H2 i p2 R2 t2 => ?_⟩
        have rr : RD X.K H2 ι2 (.ref n) (.ref a) := RD.ref (getElem?_prefix p2 i0)
        have rr2 : RD X.K H2 ι2 (.ref m) (.ref b) := RD.ref (getElem?_prefix p2 i1)
        refine ⟨fun e => ?_, fun d e => ?_⟩
        · dsimp only at e
          split at e
          · rename_i ys ys2 e9 e99
            obtain ⟨a', us1, ea, q1, rs3⟩ := listOf_ok R2 e9 rr
            cases ea
            obtain ⟨a', us2, ea, q2, rs4⟩ := listOf_ok R2 e99 rr2
            cases ea
            refine ⟨us1, us2, q1, q2, ?_⟩
            rw [← rs3.length, ← rs4.length]
            cases z1 : ys[i]? with
            | none => exact .inl (none_len z1)
            | some d1 =>
              cases z2 : ys2[i]? with
              | none => exact .inr (none_len z2)
              | some d2 => rw [z1, z2] at e; cases e
          · cases e
        · dsimp only at e
          split at e
          · rename_i ys ys2 e9 e99
            split at e
            · rename_i d1 d2 z1 z2
              cases e
              obtain ⟨a', us1, ea, q1, rs3⟩ := listOf_ok R2 e9 rr
              cases ea
              obtain ⟨a', us2, ea, q2, rs4⟩ := listOf_ok R2 e99 rr2
              cases ea
              obtain ⟨v1, y1, k1⟩ := rs3.get z1
              obtain ⟨v2, y2, k2⟩ := rs4.get z2
              refine ⟨⟨us1, us2, v1, v2, q1, q2, y1, y2⟩, fun z H' ⟨T, x1, x2, ez, hT, eh, hx1, hx2⟩ => ?_⟩
              subst ez eh
              have w1 := hx1 us1 q1
              have w2 := hx2 us2 q2
              rw [y1] at w1
              rw [y2] at w2
              cases w1
              cases w2
              exact ⟨R2.fresh hT, RD.tup SqT.new ((RDs.cons k1 (RDs.cons k2 RDs.nil)).mono (List.prefix_refl _) (TExt.upd hT)), TExt.upd hT⟩
            · cases e
          · cases e
      · cases ev
    · cases ev
  · cases ev
end

/-! ### for -/
def forL (s : Src) (t : D → Ev → M Ev) (g : Ev → M Fl) : Nat → Nat → Ev → M Fl
  | 0, _, _ => fun _ => none
  | k + 1, i, σ => fun h => match s.item h i with
    | none => none
    | some none => some (.nx σ, h)
    | some (some d) => match bnd (t d σ) g h with
      | none => none
      | some (.nx σ', h') => forL s t g k (i + 1) σ' h'
      | some (.ct σ', h') => forL s t g k (i + 1) σ' h'
      | some (.bk σ', h') => some (.nx σ', h')
      | some (.rt d, h') => some (.rt d, h')
def xFor (s : Ev → M Src) (t : D → Ev → M Ev) (g : Ev → M Fl) : Ev → M Fl := fun σ => bnd (s σ) fun src => forL src t g (src.fuel + 1) 0 σ
section
variable {X : Cx} {tg iter : Expr} {body : List Stmt} {s : Ev → M Src} {t : D → Ev → M Ev} {g : Ev → M Fl} {own : List Nat} {pos : Pos}
theorem ds_for (hc : X.calm = true) (hi : DI X tg iter s) (hg : DG X tg own t) (hb : DSs X body g) (hp : PassesOwn (model X.prog X.w) X.A X.env X.xe := by exact PassesOwn.never) (hs : ∀ x, foldedSetIterable iter X.env x = pure x := by intro _; rfl) :
    DS X (.For tg iter body [] pos) (xFor s t g) := PS.le (ps_for hp hc hi hg hb hs) fun D τ H ⟨ι, σ, h, r, h', S, ev, q⟩ => by
  obtain ⟨src, h1, e1, ev⟩ := bnd_some ev
  refine ⟨ι, σ, h, src, h1, S, e1, fun ι1 H1 J p1 R1 t1 ok => ?_⟩
  refine ⟨fun i m τ2 H2 => ∃ ι2 σ2 h2, ι1 <+: ι2 ∧ RelS X.K ι2 σ2 h2 τ2 H2 ∧ TExt X.K H1 H2 ∧ forL src t g m i σ2 h2 = some (r, h') ∧ EndsOk X.K ι2 H2 r h' D,
    ⟨src.fuel + 1, ι1, σ, h1, List.prefix_refl _, S.step p1 R1 t1, TExt.rfl', ev, q.step p1 t1⟩, ?_⟩
  rintro i m τ2 H2 ⟨ι2, σ2, h2, p2, S2, t2, e2, q2⟩
  cases m with
  | zero => simp only [forL] at e2; cases e2
  | succ m =>
    simp only [forL] at e2
    have hk := ok ι2 h2 H2 i p2 S2.hp t2
    split at e2
    · cases e2
    · rename_i e3
      cases e2
      exact .inl ⟨hk.1 e3, PstS.now q2 S2⟩
    · rename_i d e3
      obtain ⟨go, yl⟩ := hk.2 d e3
      refine .inr ⟨go, fun τ3 H3 => ∃ ι3 σ3 h3, ι1 <+: ι3 ∧ RelS X.K ι3 σ3 h3 τ3 H3 ∧ TExt X.K H1 H3 ∧ forL src t g m (i + 1) σ3 h3 = some (r, h') ∧ EndsOk X.K ι3 H3 r h' D, ?_, fun v H3 y => ?_⟩
      · rintro τ3 H3 ⟨ι3, σ3, h3, a1, a2, a3, a4, a5⟩
        exact ⟨m, Nat.lt_succ_self _, ι3, σ3, h3, a1, a2, a3, a4, a5⟩
      · obtain ⟨R3, r3, t3⟩ := yl v H3 y
        have S3 : RelS X.K ι2 σ2 h2 τ2 H3 := S2.step (List.prefix_refl _) R3 t3
        have core : ∀ r2 h4, bnd (t d σ2) g h2 = some (r2, h4) → (∀ ι4 H4, ι2 <+: ι4 → TExt X.K H3 H4 → EndsOk X.K ι4 H4 r2 h4 { D with nx := fun τ3 H3 => ∃ ι3 σ3 h3, ι1 <+: ι3 ∧ RelS X.K ι3 σ3 h3 τ3 H3 ∧ TExt X.K H1 H3 ∧ forL src t g m (i + 1) σ3 h3 = some (r, h') ∧ EndsOk X.K ι3 H3 r h' D, ct := fun τ3 H3 => ∃ ι3 σ3 h3, ι1 <+: ι3 ∧ RelS X.K ι3 σ3 h3 τ3 H3 ∧ TExt X.K H1 H3 ∧ forL src t g m (i + 1) σ3 h3 = some (r, h') ∧ EndsOk X.K ι3 H3 r h' D, bk := D.nx }) →
            tDG X.K own t v τ2 H3 fun τ4 H4 => tDS X.K g { D with nx := fun τ3 H3 => ∃ ι3 σ3 h3, ι1 <+: ι3 ∧ RelS X.K ι3 σ3 h3 τ3 H3 ∧ TExt X.K H1 H3 ∧ forL src t g m (i + 1) σ3 h3 = some (r, h') ∧ EndsOk X.K ι3 H3 r h' D, ct := fun τ3 H3 => ∃ ι3 σ3 h3, ι1 <+: ι3 ∧ RelS X.K ι3 σ3 h3 τ3 H3 ∧ TExt X.K H1 H3 ∧ forL src t g m (i + 1) σ3 h3 = some (r, h') ∧ EndsOk X.K ι3 H3 r h' D, bk := D.nx } τ4 H4 := by
          intro r2 h4 e4 q4
          obtain ⟨σ3, h3, e5, e6⟩ := bnd_some e4
          exact ⟨ι2, σ2, h2, d, σ3, h3, S3, r3, e5, fun ι4 τ4 H4 p4 S4 t4 _ => ⟨ι4, σ3, h3, r2, h4, S4, e6, q4 ι4 H4 p4 t4⟩⟩
        split at e2
        · cases e2
        · rename_i σ4 h4 e4
          refine core _ _ e4 fun ι4 H4 p4 t4 => ?_
          exact fun ι5 τ5 H5 p5 S5 t5 => ⟨ι5, σ4, h4, p2.trans (p4.trans p5), S5, ((t2.trans t3).trans t4).trans t5, e2, (q2.step (p4.trans p5) ((t3.trans t4).trans t5))⟩
        · rename_i σ4 h4 e4
          refine core _ _ e4 fun ι4 H4 p4 t4 => ?_
          exact fun ι5 τ5 H5 p5 S5 t5 => ⟨ι5, σ4, h4, p2.trans (p4.trans p5), S5, ((t2.trans t3).trans t4).trans t5, e2, (q2.step (p4.trans p5) ((t3.trans t4).trans t5))⟩
        · rename_i σ4 h4 e4
          cases e2
          refine core _ _ e4 fun ι4 H4 p4 t4 => ?_
          exact PstS.step q2 p4 (t3.trans t4)
        · rename_i d4 h4 e4
          cases e2
          refine core _ _ e4 fun ι4 H4 p4 t4 => ?_
          exact Pst.step q2 p4 (t3.trans t4)
/-! ### while -/
def whileL (c : Ev → M Bool) (g : Ev → M Fl) : Nat → Ev → M Fl
  | 0, _ => fun _ => none
  | k + 1, σ => fun h => match c σ h with
    | none => none
    | some (false, h1) => some (.nx σ, h1)
    | some (true, h1) => match g σ h1 with
      | none => none
      | some (.nx σ', h') => whileL c g k σ' h'
      | some (.ct σ', h') => whileL c g k σ' h'
      | some (.bk σ', h') => some (.nx σ', h')
      | some (.rt d, h') => some (.rt d, h')
theorem ds_while (k : Nat) {c : Expr} {tc : Ev → M Bool} (hc : DT X c tc) (hb : DSs X body g) (hp : PassesOwn (model X.prog X.w) X.A X.env X.xe := by exact PassesOwn.never) : DS X (.While c body [] pos) (fun σ => whileL tc g k σ) := PS.le (ps_while hp hc hb) fun D τ H ⟨ι, σ, h, r, h', S, ev, q⟩ => by
  refine ⟨fun m τ2 H2 => ∃ ι2 σ2 h2, RelS X.K ι2 σ2 h2 τ2 H2 ∧ whileL tc g m σ2 h2 = some (r, h') ∧ EndsOk X.K ι2 H2 r h' D, ⟨k, ι, σ, h, S, ev, q⟩, ?_⟩
  rintro m τ2 H2 ⟨ι2, σ2, h2, S2, e2, q2⟩
  cases m with
  | zero => simp only [whileL] at e2; cases e2
  | succ m =>
    simp only [whileL] at e2
    split at e2
    · cases e2
    · rename_i h3 e3
      cases e2
      refine ⟨ι2, σ2, h2, false, _, S2, e3, fun ι3 H3 p3 R3 t3 => ?_⟩
      exact iteF ((PstS.step q2 p3 t3).now (S2.step p3 R3 t3))
    · rename_i h3 e3
      refine ⟨ι2, σ2, h2, true, h3, S2, e3, fun ι3 H3 p3 R3 t3 => ?_⟩
      refine iteT ?_
      have S3 := S2.step p3 R3 t3
      have q3 := q2.step p3 t3
      refine ⟨fun τ4 H4 => ∃ ι4 σ4 h4, RelS X.K ι4 σ4 h4 τ4 H4 ∧ whileL tc g m σ4 h4 = some (r, h') ∧ EndsOk X.K ι4 H4 r h' D, ?_, ?_⟩
      · rintro τ4 H4 ⟨ι4, σ4, h4, a1, a2, a3⟩
        exact ⟨m, Nat.lt_succ_self _, ι4, σ4, h4, a1, a2, a3⟩
      · split at e2
        · cases e2
        · rename_i σ4 h4 e4
          exact ⟨ι3, σ2, h3, _, h4, S3, e4, fun ι5 τ5 H5 p5 S5 t5 => ⟨ι5, σ4, h4, S5, e2, q3.step p5 t5⟩⟩
        · rename_i σ4 h4 e4
          exact ⟨ι3, σ2, h3, _, h4, S3, e4, fun ι5 τ5 H5 p5 S5 t5 => ⟨ι5, σ4, h4, S5, e2, q3.step p5 t5⟩⟩
        · rename_i σ4 h4 e4
          cases e2
          exact ⟨ι3, σ2, h3, _, _, S3, e4, q3⟩
        · rename_i d4 h4 e4
          cases e2
          exact ⟨ι3, σ2, h3, _, _, S3, e4, q3⟩
end
end Dt

set_option Elab.async false
set_option linter.all false
set_option autoImplicit false
set_option maxRecDepth 100000
/-! DtE: comprehensions, calls, fields, methods. -/
namespace Dt
open PySem PySem.Spec PyProof.Rows L2

/-! ### [e for t in s if c] -/
def wipeD (σ : Ev) : List Nat → Ev
  | [] => σ
  | v :: vs => (wipeD σ vs).set v none
theorem REnv.wipe {K : PySem.W.Frag} {H : Hp} {ι : List Addr} {σ : Ev} {τ : L2.St} (r : REnv K H ι σ τ) : ∀ vs : List Nat, REnv K H ι (wipeD σ vs) (L2.wipe τ vs)
  | [] => r
  | v :: vs => by
    have ih := REnv.wipe r vs
    refine ⟨by show ((wipeD σ vs).set v none).length = ((L2.wipe τ vs).set v none).length; rw [List.length_set, List.length_set]; exact ih.len, fun j d e => ?_⟩
    have e' : ((wipeD σ vs).set v none)[j]? = some (some d) := e
    show ∃ w, ((L2.wipe τ vs).set v none)[j]? = some (some w) ∧ _
    by_cases hj : v = j
    · subst hj
      have hv : v < (wipeD σ vs).length := by
        have := (List.getElem?_eq_some_iff.mp e').1
        rwa [List.length_set] at this
      rw [List.getElem?_set_self hv] at e'
      cases e'
    · rw [List.getElem?_set_ne hj] at e' ⊢
      exact ih.at_ j d e'
theorem wipe_out' {τ τ' : L2.St} : ∀ {vs : List Nat}, OutS vs τ τ' → L2.wipe τ' vs = L2.wipe τ vs := by
  intro vs O
  apply List.ext_getElem?
  intro j
  by_cases hj : j ∈ vs
  · -- both are none there, or out of both
    have key : ∀ (ρ : L2.St) (ws : List Nat), j ∈ ws → (L2.wipe ρ ws)[j]? = if j < ρ.length then some none else none := by
      intro ρ ws
      induction ws with
      | nil => intro h; cases h
      | cons v ws ih =>
        intro h
        show ((L2.wipe ρ ws).set v none)[j]? = _
        by_cases hv : v = j
        · subst hv
          by_cases hl : v < (L2.wipe ρ ws).length
          · rw [List.getElem?_set_self hl, if_pos (by rwa [L2.wipe_length] at hl)]
          · rw [List.getElem?_eq_none (by rw [List.length_set]; exact Nat.le_of_not_lt hl), if_neg (by rwa [L2.wipe_length] at hl)]
        · rw [List.getElem?_set_ne hv]
          rcases List.mem_cons.mp h with z | z
          · exact absurd z.symm hv
          · exact ih z
    rw [key τ' vs hj, key τ vs hj, O.1]
  · rw [L2.wipe_out hj, L2.wipe_out hj]
    exact O.2 j hj
theorem OutS.mono {own vs : List Nat} {τ τ' : L2.St} (O : OutS own τ τ') (h : ∀ i ∈ own, i ∈ vs) : OutS vs τ τ' := ⟨O.1, fun j hj => O.2 j fun z => hj (h j z)⟩

def compL (s : Src) (t : D → Ev → M Ev) (c : Ev → M Bool) (f : Ev → M D) (r : Nat) (σ : Ev) : Nat → Nat → M D
  | 0, _ => fun _ => none
  | k + 1, i => fun h => match s.item h i with
    | none => none
    | some none => some (.ref r, h)
    | some (some d) => match bnd (t d σ) (fun σ2 => bnd (c σ2) fun b => if b = true then bnd (f σ2) (fun y h4 => match h4[r]? with
        | some (.lst acc) => if acc.length < LIM then some ((), h4.set r (.lst (acc ++ [y]))) else none
        | _ => none) else ret ()) h with
      | none => none
      | some (_, h') => compL s t c f r σ k (i + 1) h'
def xComp (s : Ev → M Src) (t : D → Ev → M Ev) (c : Ev → M Bool) (f : Ev → M D) (vs : List Nat) : Ev → M D := fun σ => bnd (s σ) fun src h => compL src t c f h.length (wipeD σ vs) (src.fuel + 1) 0 (h ++ [.lst []])
def xYes : Ev → M Bool := fun _ => ret true
def DTs (X : Cx) (ifs : List Expr) (c : Ev → M Bool) : Prop := PTs X ifs (tDB X.K c)
section
variable {X : Cx} {elt tg iter : Expr} {ifs : List Expr} {scope : Scope} {own : List (Str × Nat)} {pos : Pos} {s : Ev → M Src} {t : D → Ev → M Ev} {c : Ev → M Bool} {f : Ev → M D} {ow : List Nat} {e : Expr}
theorem dts_nil : DTs X [] xYes := ⟨fun pins s τ H Q I ⟨ι, σ, h, d, h', S, ev, q⟩ => by
  cases ev
  exact pts_nil.run pins s τ H Q I (q ι H (List.prefix_refl _) S.hp TExt.rfl')⟩
theorem dts_one (h : DT X e c) : DTs X [e] c := pts_one h
theorem comp_le (K : PySem.W.Frag) (vs : List Nat) (hv : ∀ i ∈ ow, i ∈ vs) (τ : L2.St) (H : Hp) (Q : VK) (hw : tD K (xComp s t c f vs) τ H Q) : tLc (tDI K s) (tDG K ow t) (tDB K c) (tD K f) vs τ H Q := by
  obtain ⟨ι, σ, h, d, h', S, ev, q⟩ := hw
  obtain ⟨src, h1, e1, ev⟩ := bnd_some ev
  refine ⟨ι, σ, h, src, h1, S, e1, fun ι1 H1 J p1 R1 t1 ok => fun Da hD => ?_⟩
  have R0 : RelH K (ι1 ++ [Da]) (h1 ++ [.lst []]) (upd H1 Da (.lst [])) := R1.alloc hD ⟨[], upd_same, RDs.nil⟩
  have pre : ι1 <+: ι1 ++ [Da] := ⟨[Da], rfl⟩
  have rD : (ι1 ++ [Da])[h1.length]? = some Da := by rw [← R1.len]; simp
  refine ⟨fun i m H2 => ∃ ι2 h2, (ι1 ++ [Da]) <+: ι2 ∧ RelH K ι2 h2 H2 ∧ TExt K H1 H2 ∧ compL src t c f h1.length (wipeD σ vs) m i h2 = some (d, h') ∧ Pst K ι2 H2 d h' Q,
    ⟨src.fuel + 1, ι1 ++ [Da], h1 ++ [.lst []], List.prefix_refl _, R0, TExt.upd hD, ev, q.step (p1.trans pre) (t1.trans (TExt.upd hD))⟩, ?_⟩
  rintro i m H2 ⟨ι2, h2, p2, R2, t2, e2, q2⟩
  have rD2 : ι2[h1.length]? = some Da := getElem?_prefix p2 rD
  cases m with
  | zero => simp only [compL] at e2; cases e2
  | succ m =>
    simp only [compL] at e2
    have hk := ok ι2 h2 H2 i (pre.trans p2) R2 t2
    split at e2
    · cases e2
    · rename_i e3
      cases e2
      exact .inl ⟨hk.1 e3, q2.now R2 (RD.ref rD2)⟩
    · rename_i d1 e3
      obtain ⟨go, yl⟩ := hk.2 d1 e3
      refine .inr ⟨go, fun H3 => ∃ ι3 h3, (ι1 ++ [Da]) <+: ι3 ∧ RelH K ι3 h3 H3 ∧ TExt K H1 H3 ∧ compL src t c f h1.length (wipeD σ vs) m (i + 1) h3 = some (d, h') ∧ Pst K ι3 H3 d h' Q, ?_, fun v H3 y => ?_⟩
      · rintro H3 ⟨ι3, h3, a1, a2, a3, a4, a5⟩
        exact ⟨m, Nat.lt_succ_self _, ι3, h3, a1, a2, a3, a4, a5⟩
      · obtain ⟨R3, r3, t3⟩ := yl v H3 y
        have S3 : RelS K ι2 (wipeD σ vs) h2 (L2.wipe τ vs) H3 := ⟨R3, ((S.env.mono (p1.trans (pre.trans p2)) ((t1.trans t2).trans t3))).wipe vs⟩
        split at e2
        · cases e2
        · rename_i u h4 e4
          obtain ⟨σ3, h5, e5, e4⟩ := bnd_some e4
          obtain ⟨b, h6, e6, e4⟩ := bnd_some e4
          refine ⟨ι2, _, h2, d1, σ3, h5, S3, r3, e5, fun ι4 τ4 H4 p4 S4 t4 O4 => ⟨?_, ι4, σ3, h5, b, h6, S4, e6, fun ι5 H5 p5 R5 t5 => ?_⟩⟩
          · have w1 := wipe_out' (O4.mono hv)
            rw [w1]
            -- wiping twice is wiping once
            apply List.ext_getElem?
            intro j
            by_cases hj : j ∈ vs
            · have key : ∀ (ρ : L2.St) (ws : List Nat), j ∈ ws → (L2.wipe ρ ws)[j]? = if j < ρ.length then some none else none := by
                intro ρ ws
                induction ws with
                | nil => intro h; cases h
                | cons v ws ih =>
                  intro h
                  show ((L2.wipe ρ ws).set v none)[j]? = _
                  by_cases hv : v = j
                  · subst hv
                    by_cases hl : v < (L2.wipe ρ ws).length
                    · rw [List.getElem?_set_self hl, if_pos (by rwa [L2.wipe_length] at hl)]
                    · rw [List.getElem?_eq_none (by rw [List.length_set]; exact Nat.le_of_not_lt hl), if_neg (by rwa [L2.wipe_length] at hl)]
                  · rw [List.getElem?_set_ne hv]
                    rcases List.mem_cons.mp h with z | z
                    · exact absurd z.symm hv
                    · exact ih z
              rw [key _ vs hj, key _ vs hj, L2.wipe_length]
            · rw [L2.wipe_out hj]
          · have S5 := S4.step p5 R5 t5
            cases b with
            | false =>
              cases e4
              refine iteF ⟨ι5, _, p2.trans (p4.trans p5), R5, (((t2.trans t3).trans t4).trans t5), e2, (q2.step (p4.trans p5) ((t3.trans t4).trans t5))⟩
            | true =>
              refine iteT ?_
              obtain ⟨yv, h7, e7, e4⟩ := bnd_some (show bnd (f σ3) _ h6 = _ from e4)
              refine ⟨ι5, σ3, h6, yv, h7, S5, e7, fun ι6 vy H6 p6 R6 r6 t6 => ?_⟩
              split at e4
              · rename_i acc e8
                split at e4
                · rename_i hz
                  cases e4
                  have rD6 : ι6[h1.length]? = some Da := getElem?_prefix (p4.trans (p5.trans p6)) rD2
                  obtain ⟨ws, s6, rs6⟩ := R6.ok _ _ _ e8 rD6
                  refine ⟨ws, s6, by rw [← rs6.length]; exact Nat.lt_of_lt_of_le hz (lim_line (Nat.le_refl _)), ?_⟩
                  have tw : TExt K H6 (upd H6 Da (.lst (ws ++ [vy]))) := TExt.write s6 rfl
                  refine ⟨ι6, _, p2.trans (p4.trans (p5.trans p6)), R6.write (c := .lst (acc ++ [yv])) e8 rfl rD6 ⟨ws ++ [vy], upd_same, (rs6.append (RDs.cons r6 RDs.nil)).mono (List.prefix_refl _) tw⟩ rfl, ((((t2.trans t3).trans t4).trans t5).trans t6).trans tw, e2, ?_⟩
                  exact (q2.step (p4.trans (p5.trans p6)) (((t3.trans t4).trans t5).trans t6)).step (List.prefix_refl _) tw
                · cases e4
              · cases e4
/-- as a value -/
theorem de_comp (hc : X.calm = true) (hN : X.N.Nodup) (hi : DI X tg iter s) (ok : BlkOk X.N X.env.scope scope own) (hv : ∀ i ∈ ow, i ∈ own.map (·.2))
    (hg : ∀ (s : Shared) (H : Hp) (C : Addr) (cl : List (Str × Addr)) (fp : List Addr), DG (X.blk s H scope (compEnvC scope cl C X.env) fp) tg ow t) (ht : ∀ (s : Shared) (H : Hp) (C : Addr) (cl : List (Str × Addr)) (fp : List Addr), DTs (X.blk s H scope (compEnvC scope cl C X.env) fp) ifs c)
    (he : ∀ (s : Shared) (H : Hp) (C : Addr) (cl : List (Str × Addr)) (fp : List Addr), DE (X.blk s H scope (compEnvC scope cl C X.env) fp) elt f) (hs : ∀ x, foldedSetIterable iter X.env x = pure x := by intro _; rfl) :
    DE X (.ListComp elt [⟨tg, iter, ifs, 0⟩] scope pos) (xComp s t c f (own.map (·.2))) := PE.le (pe_lc (g := tDG X.K ow t) (tt := tDB X.K c) (te := tD X.K f) hc hN hi ok hg ht he hs) fun τ H Q hw => comp_le X.K _ hv τ H Q hw
/-- name = [..] on one line -/
theorem ds_setComp (i : Nat) {y : Str} {py spos : Pos} (hc : X.calm = true) (hN : X.N.Nodup) (hsw : swapsWith (.ListComp elt [⟨tg, iter, ifs, 0⟩] scope pos) (some (.Name y py)) spos.line X.env = pure true) (hi : DI X tg iter s) (ok : BlkOk X.N X.env.scope scope own) (hv : ∀ i ∈ ow, i ∈ own.map (·.2))
    (hg : ∀ (s : Shared) (H : Hp) (C : Addr) (cl : List (Str × Addr)) (fp : List Addr), DG (X.blk s H scope (compEnvC scope cl C X.env) fp) tg ow t) (ht : ∀ (s : Shared) (H : Hp) (C : Addr) (cl : List (Str × Addr)) (fp : List Addr), DTs (X.blk s H scope (compEnvC scope cl C X.env) fp) ifs c)
    (he : ∀ (s : Shared) (H : Hp) (C : Addr) (cl : List (Str × Addr)) (fp : List Addr), DE (X.blk s H scope (compEnvC scope cl C X.env) fp) elt f) (hy : X.N[i]? = some y := by rfl) (hyl : X.env.scope.names.lookup y = some .local := by rfl) (hs : ∀ x, foldedSetIterable iter X.env x = pure x := by intro _; rfl) :
    DS X (.Assign [.Name y py] (.ListComp elt [⟨tg, iter, ifs, 0⟩] scope pos) spos) (xAsg (xComp s t c f (own.map (·.2))) (gSet i)) := PS.le (ps_setLc (g := tDG X.K ow t) (tt := tDB X.K c) (te := tD X.K f) hc hN hy hyl hsw hi ok hg ht he hs) fun D τ H ⟨ι, σ, h, r, h', S, ev, q⟩ => by
  obtain ⟨x, h1, e1, ev⟩ := bnd_some ev
  obtain ⟨σ1, h2, e2, ev⟩ := bnd_some ev
  cases ev
  cases e2
  exact comp_le X.K _ hv τ H _ ⟨ι, σ, h, x, _, S, e1, fun ι1 v1 H1 p1 R1 r1 t1 => q ι1 _ H1 p1 ⟨R1, (S.env.mono p1 t1).set r1 i⟩ t1⟩
end
end Dt

set_option Elab.async false
set_option linter.all false
set_option autoImplicit false
set_option maxRecDepth 100000
/-! DtF: defs and their calls, instances, built-ins. -/
namespace Dt
open PySem PySem.Spec PyProof.Rows L2

/-! ### what a def does -/
def spD (K : PySem.W.Frag) (n : Nat) (F : List D → M D) : Sp := fun vs H Q _ => ∃ (ι : List Addr) (h : Hd) (ds : List D) (d : D) (h' : Hd), RelH K ι h H ∧ RDs K H ι ds vs ∧ ds.length = n ∧ F ds h = some (d, h') ∧ Pst K ι H d h' Q
def startD (N : Nat) (ds : List D) : Ev := ds.map some ++ List.replicate (N - ds.length) none
/-- a body run at its arguments: n of them, N names -/
def runD (n N : Nat) (g : Ev → M Fl) : List D → M D := fun ds h => if ds.length = n then match g (startD N ds) h with
  | some (.rt d, h') => some (d, h')
  | some (.nx _, h') => some (.non, h')
  | _ => none else none
def LenOk (n : Nat) (F : List D → M D) : Prop := ∀ ds h r, F ds h = some r → ds.length = n
theorem runD_len {n N : Nat} {g : Ev → M Fl} : LenOk n (runD n N g) := fun ds h r e => by
  unfold runD at e
  split at e
  · assumption
  · cases e
theorem start_env {K : PySem.W.Frag} {H : Hp} {ι : List Addr} (N : List Str) : ∀ {ds : List D} {vs : List V}, RDs K H ι ds vs → REnv K H ι (startD N.length ds) (L2.start N vs) := fun {ds vs} r => by
  unfold startD L2.start
  have hl := r.length
  refine ⟨by rw [List.length_append, List.length_append, List.length_map, List.length_map, List.length_replicate, List.length_replicate, hl], fun i d e => ?_⟩
  by_cases hi : i < ds.length
  · rw [List.getElem?_append_left (by simpa using hi), List.getElem?_map] at e
    cases q : ds[i]? with
    | none => rw [q] at e; cases e
    | some d' =>
      rw [q] at e
      cases e
      obtain ⟨v, e1, r1⟩ := r.get q
      refine ⟨v, ?_, r1⟩
      rw [List.getElem?_append_left (by rw [List.length_map, ← hl]; exact hi), List.getElem?_map, e1]
      rfl
  · rw [List.getElem?_append_right (by simpa using hi), List.getElem?_replicate] at e
    split at e <;> cases e
section
variable {P : Program} {w : World} {K : PySem.W.Frag} {mg : Str → Option Value} {base : Heap} {x qual : Str} {params : Arguments} {body : List Stmt} {scope : Scope} {dvs : List V} {kws : List (Str × V)} {f : Addr} {fd : FuncData}
/-- THE RULE for a def -/
theorem fnD {N ps : List Str} {k : Nat} {g : Ev → M Fl} (F : FunD K x qual params body scope dvs kws f fd) (S : FnScope N ps scope)
    (hb : ∀ (cdv : Value) (A : Around) (outer : List Env) (s : Shared) (H : Hp) (E : XK), Room k (A.deeper (envOfC qual scope s.heap.objs.size f cdv)) → DSs (cxOf CX0 P w K mg base N qual scope f cdv A outer s H E).nox body g) :
    FnOk P w K mg base CX0 (k + 1) f fd ps (spD K ps.length (runD ps.length N.length g)) := by
  refine F.ok S (fun vs H Q E ⟨ι, h, ds, d, h', R, r, l, _⟩ => r.length.symm.trans l) fun cdv A outer s H vs Q E hr ⟨ι, h, ds, d, h', R, r, l, ev, q⟩ => ⟨_, (hb cdv A outer s H E hr).nox, ?_⟩
  unfold runD at ev
  rw [if_pos l] at ev
  split at ev
  · rename_i d' h2 e
    cases ev
    exact ⟨ι, _, h, _, _, ⟨R, start_env N r⟩, e, q⟩
  · rename_i σ' h2 e
    cases ev
    exact ⟨ι, _, h, _, _, ⟨R, start_env N r⟩, e, fun ι' τ' H' p S t => q ι' .non H' p S.hp RD.non t⟩
  · cases ev
end
section
variable {X : Cx} {k n : Nat} {f C : Addr} {fd : FuncData} {ps : List Str} {Fm : List D → M D} {dds : List D} {dvs : List V} {ds : List Value} {x m : Str} {p pos apos : Pos} {e o : Expr} {es : List Expr} {g : Ev → M D} {fs : Ev → M (List D)}
def xCall (F : List D → M D) (dds : List D) (fs : Ev → M (List D)) : Ev → M D := fun σ => bnd (fs σ) fun xs => F (xs ++ dds)
/-- f(e, ..) -/
theorem de_call (F : FnOk X.prog X.w X.K X.mg X.base CX0 k f fd ps (spD X.K n Fm)) (hr : Room k X.A) (hg : Gl X x) (hm : X.mg x = some (.ref f)) (hk : PySem.W.keepIn X.K (.ref f) = true) (hb : Binds X.K fd ps ds) (hd : Vals dvs ds) (hdd : ∀ H ι, RDs X.K H ι dds dvs) (hl : LenOk n Fm)
    (ha : DA X (e :: es) fs) (hdb : (x == ("__debug__" : Str)) = false := by decide) (he : starEach (e :: es) X.env = (false, eval e X.env) :: starEach es X.env := by rfl) (hpl : (backTo pos (starEach es X.env)).any (·.1) = false := by rfl) :
    DE X (.Call (.Name x p) (e :: es) [] pos) (xCall Fm dds fs) := PE.le (pe_call F hr hg hm hk hb hd pass0 ha hdb he hpl) fun τ H Q ⟨ι, σ, h, d, h', S, ev, q⟩ => by
  obtain ⟨xs, h1, e1, ev⟩ := bnd_some ev
  exact ⟨ι, σ, h, xs, h1, S, e1, fun ι1 vs H1 p1 R1 r1 t1 => ⟨ι1, h1, xs ++ dds, d, h', R1, r1.append (hdd _ _), hl _ _ _ ev, ev, q.step p1 t1⟩⟩
theorem de_call0 (F : FnOk X.prog X.w X.K X.mg X.base CX0 k f fd ps (spD X.K n Fm)) (hr : Room k X.A) (hg : Gl X x) (hm : X.mg x = some (.ref f)) (hk : PySem.W.keepIn X.K (.ref f) = true) (hb : Binds X.K fd ps ds) (hd : Vals dvs ds) (hdd : ∀ H ι, RDs X.K H ι dds dvs) (hl : LenOk n Fm)
    (hdb : (x == ("__debug__" : Str)) = false := by decide) : DE X (.Call (.Name x p) [] [] pos) (xCall Fm dds xNil) := PE.le (pe_call0 F hr hg hm hk hb hd pass0 hdb) fun τ H Q ⟨ι, σ, h, d, h', S, ev, q⟩ => by
  obtain ⟨xs, h1, e1, ev⟩ := bnd_some ev
  cases e1
  exact ⟨ι, h, dds, d, h', S.hp, hdd _ _, hl _ _ _ ev, ev, q⟩

/-! ### instances -/
def lookF (k : String) : List (String × D) → Option D
  | [] => none
  | p :: r => if p.1 = k then some p.2 else lookF k r
def putFD (k : String) (d : D) : List (String × D) → List (String × D)
  | [] => [(k, d)]
  | p :: r => if p.1 = k then (p.1, d) :: r else p :: putFD k d r
theorem lookF_ok {K : PySem.W.Frag} {H : Hp} {ι : List Addr} {k : String} : ∀ {fs : List (String × D)} {vs : List (Str × V)}, RFs K H ι fs vs → (∀ d, lookF k fs = some d → ∃ v, vs.lookup (Str.ofString k) = some v ∧ RD K H ι d v) ∧ (lookF k fs = none → vs.lookup (Str.ofString k) = none)
  | [], vs, r => by
    have : vs = [] := r
    subst this
    exact ⟨fun d e => by simp [lookF] at e, fun _ => rfl⟩
  | p :: fs, vs, r => by
    obtain ⟨v, w, rfl, r1, r2⟩ := r
    obtain ⟨i1, i2⟩ := lookF_ok (k := k) r2
    by_cases hk : p.1 = k
    · have hb : (Str.ofString k == Str.ofString p.1) = true := by rw [beq_iff_eq, hk]
      refine ⟨fun d e => ?_, fun e => ?_⟩
      · simp only [lookF, if_pos hk] at e; cases e
        exact ⟨v, by simp only [List.lookup, hb], r1⟩
      · simp only [lookF, if_pos hk] at e; cases e
    · have hb : (Str.ofString k == Str.ofString p.1) = false := by rw [ofString_beq, beq_eq_false_iff_ne]; exact fun z => hk z.symm
      refine ⟨fun d e => ?_, fun e => ?_⟩
      · simp only [lookF, if_neg hk] at e
        obtain ⟨u, h1, h2⟩ := i1 d e
        exact ⟨u, by simp only [List.lookup, hb]; exact h1, h2⟩
      · simp only [lookF, if_neg hk] at e
        simp only [List.lookup, hb]; exact i2 e
theorem RFs.put {K : PySem.W.Frag} {H : Hp} {ι : List Addr} {k : String} {d : D} {v : V} (rd : RD K H ι d v) : ∀ {fs : List (String × D)} {vs : List (Str × V)}, RFs K H ι fs vs → RFs K H ι (putFD k d fs) (putF (Str.ofString k) v vs)
  | [], vs, r => by
    have : vs = [] := r
    subst this
    exact ⟨v, [], rfl, rd, rfl⟩
  | p :: fs, vs, r => by
    obtain ⟨u, w, rfl, r1, r2⟩ := r
    by_cases hk : p.1 = k
    · simp only [putFD, if_pos hk, putF]
      rw [if_pos (by rw [hk])]
      exact ⟨v, w, rfl, rd, r2⟩
    · simp only [putFD, if_neg hk, putF]
      rw [if_neg fun z => hk (ofString_inj z)]
      exact ⟨u, _, rfl, r1, RFs.put rd r2⟩
theorem RFs.length {K : PySem.W.Frag} {H : Hp} {ι : List Addr} : ∀ {fs : List (String × D)} {vs : List (Str × V)}, RFs K H ι fs vs → fs.length = vs.length
  | [], vs, r => by rw [show vs = [] from r]; rfl
  | p :: fs, vs, r => by
    obtain ⟨u, w, rfl, r1, r2⟩ := r
    rw [List.length_cons, List.length_cons, RFs.length r2]
/-- classes that are plain and have no attribute of their own by that name -/
def ClsF (K : PySem.W.Frag) (cs : List String) (nm : String) : Prop := ∀ c ∈ cs, Cls K (He.ga K (Str.ofString c)) ∧ NoAttr K (He.ga K (Str.ofString c)) (Str.ofString nm)
def fldM (cs : List String) (nm : String) (x : D) : M D := fun h => match x with
  | .ref n => match h[n]? with
    | some (.ins c fs) => if c ∈ cs then match lookF nm fs with
      | some d => some (d, h)
      | none => none else none
    | _ => none
  | _ => none
/-- o.nm -/
theorem de_fld {nm : String} {cs : List String} (hc : ClsF X.K cs nm) (ho : DE X o g) (hb : attributeBase o (Str.ofString nm) X.env (eval o X.env) = eval o X.env := by rfl) : DE X (.Attribute o (Str.ofString nm) pos) (xUn (fldM cs nm) g) := PE.le (pe_fld ho hb) fun τ H Q ⟨ι, σ, h, d, h', S, ev, q⟩ => by
  obtain ⟨x, h1, e1, ev⟩ := bnd_some ev
  refine ⟨ι, σ, h, x, h1, S, e1, fun ι1 v1 H1 p1 R1 r1 t1 => ?_⟩
  unfold fldM at ev
  split at ev
  · split at ev
    · rename_i c fs e2
      split at ev
      · rename_i hcs
        split at ev
        · rename_i d' e3
          cases ev
          obtain ⟨a, dx, vs, rfl, _, s, rs⟩ := R1.ins e2 r1
          obtain ⟨v, e4, r4⟩ := (lookF_ok rs).1 _ e3
          exact ⟨a, _, dx, vs, v, rfl, s, (hc c hcs).1, (hc c hcs).2, e4, (q.step p1 t1).now R1 r4⟩
        · cases ev
      · cases ev
    · cases ev
  · cases ev
def setFM (cs : List String) (nm : String) (x d : D) : M Unit := fun h => match x with
  | .ref n => match h[n]? with
    | some (.ins c fs) => if c ∈ cs ∧ fs.length < 500 then some ((), h.set n (.ins c (putFD nm d fs))) else none
    | _ => none
  | _ => none
theorem setFM_ok {K : PySem.W.Frag} {ι : List Addr} {h h' : Hd} {H : Hp} {cs : List String} {nm : String} {x d : D} {vx v : V} {σ : Ev} {τ : L2.St} {N : L2.St → Hp → Prop} {u : Unit} (hc : ClsF K cs nm) (S : RelS K ι σ h τ H) (rx : RD K H ι x vx) (rd : RD K H ι d v) (ev : setFM cs nm x d h = some (u, h')) (q : PstS K ι H σ h' N) :
    ∃ a c dx fs, c ∈ cs ∧ vx = .ref a ∧ H a = some (.ins (He.ga K (Str.ofString c)) dx fs) ∧ Cls K (He.ga K (Str.ofString c)) ∧ NoAttr K (He.ga K (Str.ofString c)) (Str.ofString nm) ∧ fs.length < 1000 ∧ N τ (upd H a (.ins (He.ga K (Str.ofString c)) dx (putF (Str.ofString nm) v fs))) := by
  unfold setFM at ev
  split at ev
  · rename_i n
    split at ev
    · rename_i c fs e2
      split at ev
      · rename_i hcs
        cases ev
        obtain ⟨a, dx, vs, rfl, i, s, rs⟩ := S.hp.ins e2 rx
        have tw : TExt K H (upd H a (.ins (He.ga K (Str.ofString c)) dx (putF (Str.ofString nm) v vs))) := TExt.write s rfl
        refine ⟨a, c, dx, vs, hcs.1, rfl, s, (hc c hcs.1).1, (hc c hcs.1).2, by rw [← rs.length]; have := hcs.2; omega, ?_⟩
        exact q ι τ _ (List.prefix_refl _) ⟨S.hp.write (c := .ins c (putFD nm d fs)) e2 rfl i ⟨dx, _, upd_same, (rs.put rd).mono (List.prefix_refl _) tw⟩ rfl, S.env.mono (List.prefix_refl _) tw⟩ tw
      · cases ev
    · cases ev
  · cases ev
/-- o.nm = e -/
def xSetF (cs : List String) (nm : String) (fo fv : Ev → M D) : Ev → M Fl := fun σ => bnd (fv σ) fun d => bnd (fo σ) fun x => bnd (setFM cs nm x d) fun _ => ret (.nx σ)
theorem ds_fld {nm : String} {cs : List String} {value : Expr} {pos' : Pos} {fv : Ev → M D} (hc : ClsF X.K cs nm) (ho : DE X o g) (hv : DE X value fv) (hs : swapsWith value (some (.Attribute o (Str.ofString nm) pos')) pos.line X.env = pure false := by rfl) : DS X (.Assign [.Attribute o (Str.ofString nm) pos'] value pos) (xSetF cs nm g fv) := PS.le (ps_fld ho hv hs) fun D τ H ⟨ι, σ, h, r, h', S, ev, q⟩ => by
  obtain ⟨d, h1, e1, ev⟩ := bnd_some ev
  obtain ⟨x, h2, e2, ev⟩ := bnd_some ev
  obtain ⟨u, h3, e3, ev⟩ := bnd_some ev
  cases ev
  exact ⟨ι, σ, h, d, h1, S, e1, fun ι1 v1 H1 p1 R1 r1 t1 => ⟨ι1, σ, h1, x, h2, S.step p1 R1 t1, e2, fun ι2 v2 H2 p2 R2 r2 t2 => by
    obtain ⟨a, c, dx, fs, _, k⟩ := setFM_ok hc ((S.step p1 R1 t1).step p2 R2 t2) r2 (r1.mono p2 t2) e3 (PstS.step q (p1.trans p2) (t1.trans t2))
    exact ⟨a, _, dx, fs, k⟩⟩⟩
/-- o.nm op= e -/
def clsM (x : D) : M String := fun h => match x with
  | .ref n => match h[n]? with
    | some (.ins c _) => some (c, h)
    | _ => none
  | _ => none
def xAugF (cs : List String) (nm : String) (op : D → D → M D) (fo fv : Ev → M D) : Ev → M Fl := fun σ => bnd (fo σ) fun x => bnd (clsM x) fun c => bnd (fldM cs nm x) fun v => bnd (fv σ) fun y => bnd (op v y) fun z => bnd (setFM [c] nm x z) fun _ => ret (.nx σ)
theorem ds_fldaug {nm : String} {cs : List String} {value : Expr} {tpos : Pos} {fv : Ev → M D} {op : Operator} {opM : D → D → M D} (hc : ClsF X.K cs nm) (ho : DE X o g) (hv : DE X value fv) (hop : OpD X (inplaceOp op) opM) : DS X (.AugAssign (.Attribute o (Str.ofString nm) tpos) op value pos) (xAugF cs nm opM g fv) := PS.le (ps_fldaug (rd := dynR X (inplaceOp op)) ho hv dyn_ok) fun D τ H ⟨ι, σ, h, r, h', S, ev, q⟩ => by
  obtain ⟨x, h1, e1, ev1⟩ := bnd_some ev
  obtain ⟨c, hc1, ec, ev2⟩ := bnd_some ev1
  obtain ⟨v0, h2, e2, ev3⟩ := bnd_some ev2
  obtain ⟨y, h3, e3, ev4⟩ := bnd_some ev3
  obtain ⟨z, h4, e4, ev5⟩ := bnd_some ev4
  obtain ⟨u, h5, e5, ev6⟩ := bnd_some ev5
  cases ev6
  clear ev ev1 ev2 ev3 ev4 ev5
  refine ⟨ι, σ, h, x, h1, S, e1, fun ι1 v1 H1 p1 R1 r1 t1 => ?_⟩
  unfold clsM at ec
  split at ec
  · rename_i n
    split at ec
    · rename_i c fs e6
      cases ec
      simp only [fldM, e6] at e2
      split at e2
      · rename_i hcs
        split at e2
        · rename_i d' e7
          cases e2
          obtain ⟨a, dx, vs, rfl, i, s, rs⟩ := R1.ins e6 r1
          obtain ⟨v, e8, r8⟩ := (lookF_ok rs).1 _ e7
          refine ⟨a, _, dx, vs, v, rfl, s, (hc c hcs).1, (hc c hcs).2, e8, ι1, σ, _, y, h3, S.step p1 R1 t1, e3, fun ι3 vy H3 p3 R3 r3 t3 => ?_⟩
          refine hop ι3 h3 H3 _ y z h4 v vy _ R3 (r8.mono p3 t3) r3 e4 fun ι4 vz H4 p4 R4 r4 t4 => ?_
          have S4 := ((S.step p1 R1 t1).step p3 R3 t3).step p4 R4 t4
          have rx : RD X.K H4 ι4 (.ref n) (.ref a) := RD.ref (getElem?_prefix (p3.trans p4) i)
          obtain ⟨a', c', dx', fs', hm, ea, k1, _, _, k4, k5⟩ := setFM_ok (fun c1 h1 => by rw [List.mem_singleton.mp h1]; exact hc c hcs) S4 rx r4 e5 (PstS.step q (p1.trans (p3.trans p4)) (t1.trans (t3.trans t4)))
          cases ea
          obtain rfl := List.mem_singleton.mp hm
          exact ⟨dx', fs', k1, k4, k5⟩
        · cases e2
      · cases e2
    · cases ec
  · cases ec
/-- o.m(e, ..), o an instance of the class c -/
def methM (c m : String) (x : D) : M Unit := fun h => match x with
  | .ref n => match h[n]? with
    | some (.ins c' fs) => if c' = c ∧ (lookF m fs).isNone = true then some ((), h) else none
    | _ => none
  | _ => none
theorem methM_ok {K : PySem.W.Frag} {ι : List Addr} {h h' : Hd} {H : Hp} {c m : String} {x : D} {vx : V} {u : Unit} (R : RelH K ι h H) (rx : RD K H ι x vx) (ev : methM c m x h = some (u, h')) : h' = h ∧ ∃ a dx fs, vx = .ref a ∧ H a = some (.ins (He.ga K (Str.ofString c)) dx fs) ∧ fs.lookup (Str.ofString m) = none := by
  unfold methM at ev
  split at ev
  · split at ev
    · rename_i c' fs e
      split at ev
      · rename_i hc
        cases ev
        obtain ⟨a, dx, vs, rfl, _, s, rs⟩ := R.ins e rx
        refine ⟨rfl, a, dx, vs, rfl, by rw [← hc.1]; exact s, (lookF_ok rs).2 (Option.isNone_iff_eq_none.mp hc.2)⟩
      · cases ev
    · cases ev
  · cases ev
def xMeth (c m : String) (F : List D → M D) (dds : List D) (fo : Ev → M D) (fs : Ev → M (List D)) : Ev → M D := fun σ => bnd (fo σ) fun x => bnd (methM c m x) fun _ => bnd (fs σ) fun xs => F (x :: (xs ++ dds))
theorem de_meth {c m : String} {pl : Sem Bool} (F : FnOk X.prog X.w X.K X.mg X.base CX0 k f fd ps (spD X.K n Fm)) (hr : Room k X.A) (cl : Cls X.K (He.ga X.K (Str.ofString c))) (hm : Meth X.K (He.ga X.K (Str.ofString c)) (Str.ofString m) f) (hb : Binds X.K fd ps ds) (hd : Vals dvs ds) (hdd : ∀ H ι, RDs X.K H ι dds dvs) (hl : LenOk n Fm)
    (ho : DE X o g) (ha : DA X (e :: es) fs) (hst : starEach (e :: es) X.env = (false, eval e X.env) :: starEach es X.env := by rfl) (hpl : (backTo pos (starEach es X.env)).any (·.1) = false := by rfl)
    (ht : eval (.Call (.Attribute o (Str.ofString m) apos) (e :: es) [] pos) X.env = (do
      let ov ← eval o X.env
      standAt apos.atName
      let (f, first) ← holding [ov] (getMethod ov (Str.ofString m) pl)
      callWith pos f first (backTo pos (starEach (e :: es) X.env)) (backToKw pos (keywordEach [] X.env))) := by rfl) :
    DE X (.Call (.Attribute o (Str.ofString m) apos) (e :: es) [] pos) (xMeth c m Fm dds g fs) := PE.le (pe_meth (pl := pl) ho cl hm F hr hb hd pass0 ha hst hpl ht) fun τ H Q ⟨ι, σ, h, d, h', S, ev, q⟩ => by
  obtain ⟨x, h1, e1, ev1⟩ := bnd_some ev
  obtain ⟨u, h2, e2, ev2⟩ := bnd_some ev1
  obtain ⟨xs, h3, e3, ev3⟩ := bnd_some ev2
  clear ev ev1 ev2
  refine ⟨ι, σ, h, x, h1, S, e1, fun ι1 v1 H1 p1 R1 r1 t1 => ?_⟩
  obtain ⟨rfl, a, dx, fs, rfl, s, l⟩ := methM_ok R1 r1 e2
  exact ⟨a, dx, fs, rfl, s, l, ι1, σ, _, xs, h3, S.step p1 R1 t1, e3, fun ι2 vs H2 p2 R2 r2 t2 => ⟨ι2, h3, x :: (xs ++ dds), d, h', R2, RDs.cons (r1.mono p2 t2) (r2.append (hdd _ _)), hl _ _ _ ev3, ev3, q.step (p1.trans p2) (t1.trans t2)⟩⟩
theorem de_meth0 {c m : String} {pl : Sem Bool} (F : FnOk X.prog X.w X.K X.mg X.base CX0 k f fd ps (spD X.K n Fm)) (hr : Room k X.A) (cl : Cls X.K (He.ga X.K (Str.ofString c))) (hm : Meth X.K (He.ga X.K (Str.ofString c)) (Str.ofString m) f) (hb : Binds X.K fd ps ds) (hd : Vals dvs ds) (hdd : ∀ H ι, RDs X.K H ι dds dvs) (hl : LenOk n Fm)
    (ho : DE X o g) (ht : eval (.Call (.Attribute o (Str.ofString m) apos) [] [] pos) X.env = (do
      let ov ← eval o X.env
      standAt apos.atName
      let (f, first) ← holding [ov] (getMethod ov (Str.ofString m) pl)
      callWith pos f first (backTo pos (starEach [] X.env)) (backToKw pos (keywordEach [] X.env))) := by rfl) :
    DE X (.Call (.Attribute o (Str.ofString m) apos) [] [] pos) (xMeth c m Fm dds g xNil) := PE.le (pe_meth0 (pl := pl) ho cl hm F hr hb hd pass0 ht) fun τ H Q ⟨ι, σ, h, d, h', S, ev, q⟩ => by
  obtain ⟨x, h1, e1, ev1⟩ := bnd_some ev
  obtain ⟨u, h2, e2, ev2⟩ := bnd_some ev1
  obtain ⟨xs, h3, e3, ev3⟩ := bnd_some ev2
  clear ev ev1 ev2
  cases e3
  refine ⟨ι, σ, h, x, h1, S, e1, fun ι1 v1 H1 p1 R1 r1 t1 => ?_⟩
  obtain ⟨rfl, a, dx, fs, rfl, s, l⟩ := methM_ok R1 r1 e2
  exact ⟨a, dx, fs, rfl, s, l, ι1, _, x :: ([] ++ dds), d, h', R1, RDs.cons r1 (hdd _ _), hl _ _ _ ev3, ev3, q.step p1 t1⟩
/-- C(e, ..) -/
def makeM (c : String) (F : List D → M D) (xs : List D) : M D := fun h => match F (.ref h.length :: xs) (h ++ [.ins c []]) with
  | some (.non, h') => some (.ref h.length, h')
  | _ => none
def xMake (c : String) (F : List D → M D) (dds : List D) (fs : Ev → M (List D)) : Ev → M D := fun σ => bnd (fs σ) fun xs => makeM c F (xs ++ dds)
theorem makeM_ok {K : PySem.W.Frag} {ι : List Addr} {h h' : Hd} {H : Hp} {c : String} {F : List D → M D} {xs : List D} {vs : List V} {d : D} {n : Nat} {Q : VK} (R : RelH K ι h H) (r : RDs K H ι xs vs) (hl : LenOk n F) (ev : makeM c F xs h = some (d, h')) (q : Pst K ι H d h' Q) (E : XK) :
    ∀ x dx, H x = none → H dx = none → dx ≠ x → spD K n F (.ref x :: vs) (upd (upd H dx (.own x)) x (.ins (He.ga K (Str.ofString c)) dx [])) (fun v H2 => v = .non ∧ Q (.ref x) H2) E := by
  intro x dx hx hdx hne
  unfold makeM at ev
  split at ev
  · rename_i h2 e
    cases ev
    have hx1 : upd H dx (.own x) x = none := by rw [upd_ne (Ne.symm hne)]; exact hx
    have t1 : TExt K H (upd H dx (.own x)) := TExt.upd hdx
    have R1 := R.fresh (o := .own x) hdx
    have t2 : TExt K (upd H dx (.own x)) (upd (upd H dx (.own x)) x (.ins (He.ga K (Str.ofString c)) dx [])) := TExt.upd hx1
    have R2 := R1.alloc (c := .ins c []) (o := .ins (He.ga K (Str.ofString c)) dx []) hx1 ⟨dx, [], upd_same, rfl⟩
    have pre : ι <+: ι ++ [x] := ⟨[x], rfl⟩
    have i : (ι ++ [x])[h.length]? = some x := by rw [← R.len]; simp
    refine ⟨ι ++ [x], h ++ [.ins c []], .ref h.length :: xs, .non, _, R2, RDs.cons (RD.ref i) (r.mono pre (t1.trans t2)), hl _ _ _ e, e, fun ι3 v H3 p3 R3 r3 t3 => ⟨r3.non_inv, ?_⟩⟩
    exact q ι3 _ H3 (pre.trans p3) R3 (RD.ref (getElem?_prefix p3 i)) ((t1.trans t2).trans t3)
  · cases ev
theorem de_make {c : String} (Mc : Mk X.K (He.ga X.K (Str.ofString c)) f) (F : FnOk X.prog X.w X.K X.mg X.base CX0 k f fd ps (spD X.K n Fm)) (hr : Room (k + 1) X.A) (hg : Gl X x) (hm : X.mg x = some (.ref (He.ga X.K (Str.ofString c)))) (hb : Binds X.K fd ps ds) (hd : Vals dvs ds) (hdd : ∀ H ι, RDs X.K H ι dds dvs) (hl : LenOk n Fm)
    (ha : DA X (e :: es) fs) (hdb : (x == ("__debug__" : Str)) = false := by decide) (he : starEach (e :: es) X.env = (false, eval e X.env) :: starEach es X.env := by rfl) (hpl : (backTo pos (starEach es X.env)).any (·.1) = false := by rfl) :
    DE X (.Call (.Name x p) (e :: es) [] pos) (xMake c Fm dds fs) := PE.le (pe_make Mc F hr hg hm hb hd pass0 ha hdb he hpl) fun τ H Q ⟨ι, σ, h, d, h', S, ev, q⟩ => by
  obtain ⟨xs, h1, e1, ev⟩ := bnd_some ev
  exact ⟨ι, σ, h, xs, h1, S, e1, fun ι1 vs H1 p1 R1 r1 t1 => makeM_ok R1 (r1.append (hdd _ _)) hl ev (q.step p1 t1) E0⟩
theorem de_make0 {c : String} (Mc : Mk X.K (He.ga X.K (Str.ofString c)) f) (F : FnOk X.prog X.w X.K X.mg X.base CX0 k f fd ps (spD X.K n Fm)) (hr : Room (k + 1) X.A) (hg : Gl X x) (hm : X.mg x = some (.ref (He.ga X.K (Str.ofString c)))) (hb : Binds X.K fd ps ds) (hd : Vals dvs ds) (hdd : ∀ H ι, RDs X.K H ι dds dvs) (hl : LenOk n Fm)
    (hdb : (x == ("__debug__" : Str)) = false := by decide) : DE X (.Call (.Name x p) [] [] pos) (xMake c Fm dds xNil) := PE.le (pe_make0 Mc F hr hg hm hb hd pass0 hdb) fun τ H Q ⟨ι, σ, h, d, h', S, ev, q⟩ => by
  obtain ⟨xs, h1, e1, ev⟩ := bnd_some ev
  cases e1
  exact makeM_ok S.hp (RDs.nil.append (hdd _ _)) hl ev q E0

/-! ### built-ins -/
def dynC (X : Cx) (f : Value) : List V → Hp → VK → Prop := fun vs H Q => ∃ r, CallR X f r ∧ r vs H Q
theorem dynC_ok {fv : Value} : CallR X fv (dynC X fv) := fun pins s σ H xs us Q I r ⟨_, hr, q⟩ => hr pins s σ H xs us Q I r q
def CallD (X : Cx) (fv : Value) (op : List D → M D) : Prop :=
  ∀ (ι : List Addr) (h : Hd) (H : Hp) (xs : List D) (d : D) (h' : Hd) (vs : List V) (Q : VK), RelH X.K ι h H → RDs X.K H ι xs vs → op xs h = some (d, h') → Pst X.K ι H d h' Q → ∃ r, CallR X fv r ∧ r vs H Q
def xB (op : List D → M D) (fs : Ev → M (List D)) : Ev → M D := fun σ => bnd (fs σ) op
theorem de_callB {id : String} {op : List D → M D} (hc : CallD X (.builtin id) op) (hg : Gl X x) (hm : X.mg x = none) (hv : bootBuiltins x = some (.builtin id)) (ha : DA X (e :: es) fs) (hn : x ≠ "__name__" := by decide) (hdb : (x == ("__debug__" : Str)) = false := by decide)
    (he : starEach (e :: es) X.env = (false, eval e X.env) :: starEach es X.env := by rfl) (hpl : (backTo pos (starEach es X.env)).any (·.1) = false := by rfl) : DE X (.Call (.Name x p) (e :: es) [] pos) (xB op fs) := PE.le (pe_callB dynC_ok hg hm hv ha hn hdb he hpl) fun τ H Q ⟨ι, σ, h, d, h', S, ev, q⟩ => by
  obtain ⟨xs, h1, e1, ev⟩ := bnd_some ev
  exact ⟨ι, σ, h, xs, h1, S, e1, fun ι1 vs H1 p1 R1 r1 t1 => hc ι1 h1 H1 xs d h' vs Q R1 r1 ev (q.step p1 t1)⟩
theorem de_callT {id : String} {op : List D → M D} (hc : CallD X (.type id) op) (hg : Gl X x) (hm : X.mg x = none) (hv : bootBuiltins x = some (.type id)) (ha : DA X (e :: es) fs) (hn : x ≠ "__name__" := by decide) (hdb : (x == ("__debug__" : Str)) = false := by decide)
    (he : starEach (e :: es) X.env = (false, eval e X.env) :: starEach es X.env := by rfl) (hpl : (backTo pos (starEach es X.env)).any (·.1) = false := by rfl) : DE X (.Call (.Name x p) (e :: es) [] pos) (xB op fs) := PE.le (pe_callTy dynC_ok hg hm hv ha hn hdb he hpl) fun τ H Q ⟨ι, σ, h, d, h', S, ev, q⟩ => by
  obtain ⟨xs, h1, e1, ev⟩ := bnd_some ev
  exact ⟨ι, σ, h, xs, h1, S, e1, fun ι1 vs H1 p1 R1 r1 t1 => hc ι1 h1 H1 xs d h' vs Q R1 r1 ev (q.step p1 t1)⟩
def lenM (xs : List D) : M D := fun h => match xs with
  | [x] => match itemsOf h x with
    | some ys => some (.int (ys.length : Nat), h)
    | none => match x with
      | .ref n => match h[n]? with
        | some (.dct kvs) => some (.int (kvs.length : Nat), h)
        | _ => none
      | _ => none
  | _ => none
theorem call_lenDK : CallR X (.builtin "len") (fun xs H Q => ∃ a kvs, xs = [.ref a] ∧ H a = some (.dK kvs) ∧ Q (.int (kvs.length : Nat)) H) := by
  intro pins s σ H xs us Q I r h
  obtain ⟨a, kvs, rfl, e, q⟩ := h
  obtain ⟨u, rfl, ru⟩ := vals1 r
  obtain rfl : u = Value.ref a := ru
  exact d_len I (.inl e) fun t s' I' => ⟨.int _, H, I', ⟨_, rfl⟩, q⟩
theorem c_len : CallD X (.builtin "len") lenM := by
  intro ι h H xs d h' vs Q R r ev q
  unfold lenM at ev
  split at ev
  · rename_i x
    obtain ⟨v, w, rfl, r1, r2⟩ := r.inv
    obtain rfl := r2.inv0
    split at ev
    · rename_i ys e0
      cases ev
      obtain ⟨a, ws, rfl, s, rs⟩ := itemsOf_ok R e0 r1
      refine ⟨_, call_len_seq, a, ws, rfl, s, q.now R ?_⟩
      rw [← rs.length]
      exact RD.int
    · split at ev
      · split at ev
        · rename_i kvs e1
          cases ev
          obtain ⟨a, ws, rfl, _, s, rs⟩ := R.dct e1 r1
          refine ⟨_, call_lenDK, a, ws, rfl, s, q.now R ?_⟩
          rw [← rs.length]
          exact RD.int
        · cases ev
      · cases ev
  · cases ev
def absM (xs : List D) : M D := fun h => match xs with
  | [.int i] => some (.int (if i < 0 then -i else i), h)
  | _ => none
theorem c_abs : CallD X (.builtin "abs") absM := by
  intro ι h H xs d h' vs Q R r ev q
  unfold absM at ev
  split at ev
  · obtain ⟨v, w, rfl, r1, r2⟩ := r.inv
    obtain rfl := r2.inv0
    obtain rfl := r1.int_inv
    cases ev
    exact ⟨_, call_abs, _, rfl, q.now R RD.int⟩
  · cases ev
def intM (xs : List D) : M D := fun h => match xs with
  | [.int i] => some (.int i, h)
  | [.bl b] => some (.int (if b then 1 else 0), h)
  | _ => none
theorem c_int : CallD X (.type "int") intM := by
  intro ι h H xs d h' vs Q R r ev q
  unfold intM at ev
  split at ev
  · obtain ⟨v, w, rfl, r1, r2⟩ := r.inv
    obtain rfl := r2.inv0
    obtain rfl := r1.int_inv
    cases ev
    exact ⟨_, call_int1, .inl ⟨_, rfl, q.now R RD.int⟩⟩
  · obtain ⟨v, w, rfl, r1, r2⟩ := r.inv
    obtain rfl := r2.inv0
    obtain rfl := r1.bl_inv
    cases ev
    exact ⟨_, call_int1, .inr ⟨_, rfl, q.now R RD.int⟩⟩
  · cases ev
def listM (xs : List D) : M D := fun h => match xs with
  | [x] => match itemsOf h x with
    | some ys => some (.ref h.length, h ++ [.lst ys])
    | none => none
  | _ => none
theorem c_list : CallD X (.type "list") listM := by
  intro ι h H xs d h' vs Q R r ev q
  unfold listM at ev
  split at ev
  · rename_i x
    obtain ⟨v, w, rfl, r1, r2⟩ := r.inv
    obtain rfl := r2.inv0
    split at ev
    · rename_i ys e0
      cases ev
      obtain ⟨a, ws, rfl, s, rs⟩ := itemsOf_ok R e0 r1
      exact ⟨_, call_list_of, a, ws, rfl, s, q.lst R rs⟩
    · cases ev
  · cases ev
def tupM (xs : List D) : M D := fun h => match xs with
  | [x] => match itemsOf h x with
    | some ys => some (.tup ys, h)
    | none => none
  | _ => none
theorem c_tuple : CallD X (.type "tuple") tupM := by
  intro ι h H xs d h' vs Q R r ev q
  unfold tupM at ev
  split at ev
  · rename_i x
    obtain ⟨v, w, rfl, r1, r2⟩ := r.inv
    obtain rfl := r2.inv0
    split at ev
    · rename_i ys e0
      cases ev
      obtain ⟨a, ws, rfl, s, rs⟩ := itemsOf_ok R e0 r1
      rcases s with s | s
      · exact ⟨_, call_tuple_of, a, ws, rfl, .inl ⟨s, q.tup R rs⟩⟩
      · exact ⟨_, call_tuple_of, a, ws, rfl, .inr ⟨s, q.now R (RD.tup s rs)⟩⟩
    · cases ev
  · cases ev
def intsOf : List D → Option (List Int)
  | [] => some []
  | .int i :: r => (intsOf r).map (i :: ·)
  | _ => none
theorem intsOf_eq : ∀ {xs : List D} {ns : List Int}, intsOf xs = some ns → xs = ns.map D.int
  | [], ns, e => by simp only [intsOf] at e; cases e; rfl
  | .int i :: r, ns, e => by
    simp only [intsOf] at e
    obtain ⟨ms, e1, rfl⟩ := Option.map_eq_some_iff.mp e
    rw [intsOf_eq e1]; rfl
  | .non :: _, _, e => by simp [intsOf] at e
  | .bl _ :: _, _, e => by simp [intsOf] at e
  | .str _ :: _, _, e => by simp [intsOf] at e
  | .tup _ :: _, _, e => by simp [intsOf] at e
  | .ref _ :: _, _, e => by simp [intsOf] at e
def maxI : List Int → Int
  | [] => 0
  | x :: r => r.foldl max x
def minI : List Int → Int
  | [] => 0
  | x :: r => r.foldl min x
theorem foldl_max : ∀ (r : List Int) (x : Int), (r.foldl max x = x ∨ r.foldl max x ∈ r) ∧ x ≤ r.foldl max x ∧ ∀ y ∈ r, y ≤ r.foldl max x
  | [], x => ⟨.inl rfl, Int.le_refl _, fun y hy => by cases hy⟩
  | z :: r, x => by
    obtain ⟨h1, h2, h3⟩ := foldl_max r (max x z)
    refine ⟨?_, ?_, ?_⟩
    · rcases h1 with h1 | h1
      · rw [List.foldl_cons, h1]
        by_cases hx : x ≤ z
        · rw [Int.max_eq_right hx]; exact .inr List.mem_cons_self
        · rw [Int.max_eq_left (by omega)]; exact .inl rfl
      · exact .inr (List.mem_cons_of_mem _ h1)
    · rw [List.foldl_cons]; omega
    · intro y hy
      rw [List.foldl_cons]
      rcases List.mem_cons.mp hy with rfl | hy
      · omega
      · exact h3 y hy
theorem foldl_min : ∀ (r : List Int) (x : Int), (r.foldl min x = x ∨ r.foldl min x ∈ r) ∧ r.foldl min x ≤ x ∧ ∀ y ∈ r, r.foldl min x ≤ y
  | [], x => ⟨.inl rfl, Int.le_refl _, fun y hy => by cases hy⟩
  | z :: r, x => by
    obtain ⟨h1, h2, h3⟩ := foldl_min r (min x z)
    refine ⟨?_, ?_, ?_⟩
    · rcases h1 with h1 | h1
      · rw [List.foldl_cons, h1]
        by_cases hx : x ≤ z
        · rw [Int.min_eq_left hx]; exact .inl rfl
        · rw [Int.min_eq_right (by omega)]; exact .inr List.mem_cons_self
      · exact .inr (List.mem_cons_of_mem _ h1)
    · rw [List.foldl_cons]; omega
    · intro y hy
      rw [List.foldl_cons]
      rcases List.mem_cons.mp hy with rfl | hy
      · omega
      · exact h3 y hy
def maxM (xs : List D) : M D := fun h => match xs with
  | [.int i, .int j] => some (.int (if j > i then j else i), h)
  | [x] => match listOf h x with
    | some ys => match intsOf ys with
      | some ns => if 0 < ns.length then some (.int (maxI ns), h) else none
      | none => none
    | none => none
  | _ => none
def minM (xs : List D) : M D := fun h => match xs with
  | [.int i, .int j] => some (.int (if j < i then j else i), h)
  | [x] => match listOf h x with
    | some ys => match intsOf ys with
      | some ns => if 0 < ns.length then some (.int (minI ns), h) else none
      | none => none
    | none => none
  | _ => none
theorem c_max (hc : X.calm = true) : CallD X (.builtin "max") maxM := by
  intro ι h H xs d h' vs Q R r ev q
  unfold maxM at ev
  split at ev
  · obtain ⟨v, w, rfl, r1, r2⟩ := r.inv
    obtain ⟨v', w', rfl, r3, r4⟩ := r2.inv
    obtain rfl := r4.inv0
    obtain rfl := r1.int_inv
    obtain rfl := r3.int_inv
    cases ev
    exact ⟨_, call_max2 hc, _, _, rfl, q.now R RD.int⟩
  · obtain ⟨v, w, rfl, r1, r2⟩ := r.inv
    obtain rfl := r2.inv0
    split at ev
    · rename_i ys e0
      split at ev
      · rename_i ns e1
        split at ev
        · rename_i hl
          cases ev
          obtain ⟨a, ws, rfl, s, rs⟩ := listOf_ok R e0 r1
          rw [intsOf_eq e1] at rs
          obtain rfl := rs.ints
          refine ⟨_, cr_max hc, a, ns, rfl, s, hl, fun m hm hy => ?_⟩
          have : m = maxI ns := by
            cases ns with
            | nil => cases hm
            | cons x r =>
              obtain ⟨h1, h2, h3⟩ := foldl_max r x
              have a1 : maxI (x :: r) ∈ x :: r := by
                rcases h1 with h1 | h1
                · show r.foldl max x ∈ _; rw [h1]; exact List.mem_cons_self
                · exact List.mem_cons_of_mem _ h1
              have a2 : m ≤ maxI (x :: r) := by
                rcases List.mem_cons.mp hm with rfl | hm
                · exact h2
                · exact h3 m hm
              have a3 := hy _ a1
              omega
          rw [this]
          exact q.now R RD.int
        · cases ev
      · cases ev
    · cases ev
  · cases ev
theorem c_min (hc : X.calm = true) : CallD X (.builtin "min") minM := by
  intro ι h H xs d h' vs Q R r ev q
  unfold minM at ev
  split at ev
  · obtain ⟨v, w, rfl, r1, r2⟩ := r.inv
    obtain ⟨v', w', rfl, r3, r4⟩ := r2.inv
    obtain rfl := r4.inv0
    obtain rfl := r1.int_inv
    obtain rfl := r3.int_inv
    cases ev
    exact ⟨_, call_min2 hc, _, _, rfl, q.now R RD.int⟩
  · obtain ⟨v, w, rfl, r1, r2⟩ := r.inv
    obtain rfl := r2.inv0
    split at ev
    · rename_i ys e0
      split at ev
      · rename_i ns e1
        split at ev
        · rename_i hl
          cases ev
          obtain ⟨a, ws, rfl, s, rs⟩ := listOf_ok R e0 r1
          rw [intsOf_eq e1] at rs
          obtain rfl := rs.ints
          refine ⟨_, cr_min hc, a, ns, rfl, s, hl, fun m hm hy => ?_⟩
          have : m = minI ns := by
            cases ns with
            | nil => cases hm
            | cons x r =>
              obtain ⟨h1, h2, h3⟩ := foldl_min r x
              have a1 : minI (x :: r) ∈ x :: r := by
                rcases h1 with h1 | h1
                · show r.foldl min x ∈ _; rw [h1]; exact List.mem_cons_self
                · exact List.mem_cons_of_mem _ h1
              have a2 : minI (x :: r) ≤ m := by
                rcases List.mem_cons.mp hm with rfl | hm
                · exact h2
                · exact h3 m hm
              have a3 := hy _ a1
              omega
          rw [this]
          exact q.now R RD.int
        · cases ev
      · cases ev
    · cases ev
  · cases ev
def sumM (xs : List D) : M D := fun h => match xs with
  | [x] => match listOf h x with
    | some ys => match intsOf ys with
      | some ns => some (.int ns.sum, h)
      | none => none
    | none => none
  | _ => none
theorem c_sum (hc : X.calm = true) : CallD X (.builtin "sum") sumM := by
  intro ι h H xs d h' vs Q R r ev q
  unfold sumM at ev
  split at ev
  · obtain ⟨v, w, rfl, r1, r2⟩ := r.inv
    obtain rfl := r2.inv0
    split at ev
    · rename_i ys e0
      split at ev
      · rename_i ns e1
        cases ev
        obtain ⟨a, ws, rfl, s, rs⟩ := listOf_ok R e0 r1
        rw [intsOf_eq e1] at rs
        obtain rfl := rs.ints
        exact ⟨_, cr_sum hc, a, ns, rfl, s, q.now R RD.int⟩
      · cases ev
    · cases ev
  · cases ev
/-- dict(d) -/
def dictM (xs : List D) : M D := fun h => match xs with
  | [.ref n] => match h[n]? with
    | some (.dct kvs) => some (.ref h.length, h ++ [.dct kvs])
    | _ => none
  | _ => none
theorem call_dictCopy : CallR X (.type "dict") (fun xs H Q => ∃ a kvs, xs = [.ref a] ∧ H a = some (.dK kvs) ∧ ∀ p, H p = none → Q (.ref p) (upd H p (.dK kvs))) := by
  intro pins s σ H xs us Q I r h
  obtain ⟨a, kvs, rfl, e, q⟩ := h
  obtain ⟨u, rfl, ru⟩ := vals1 r
  obtain rfl : u = Value.ref a := ru
  exact d_copyOf I (.inl e) fun p s' hp I' => ⟨.ref p, _, I', rfl, q p hp⟩
theorem Pst.dct {K : PySem.W.Frag} {ι : List Addr} {h : Hd} {H : Hp} {xs : List (Key × D)} {vs : List (Key × V)} {Q : VK} (R : RelH K ι h H) (rs : RKs K H ι xs vs) (q : Pst K ι H (.ref h.length) (h ++ [.dct xs]) Q) : ∀ p, H p = none → Q (.ref p) (upd H p (.dK vs)) := fun p hp =>
  q (ι ++ [p]) (.ref p) _ ⟨[p], rfl⟩ (R.alloc hp ⟨vs, upd_same, rs.mono ⟨[p], rfl⟩ (TExt.upd hp)⟩) (RD.ref (by rw [← R.len]; simp)) (TExt.upd hp)
theorem c_dict : CallD X (.type "dict") dictM := by
  intro ι h H xs d h' vs Q R r ev q
  unfold dictM at ev
  split at ev
  · obtain ⟨v, w, rfl, r1, r2⟩ := r.inv
    obtain rfl := r2.inv0
    split at ev
    · rename_i kvs e1
      cases ev
      obtain ⟨a, ws, rfl, _, s, rs⟩ := R.dct e1 r1
      exact ⟨_, call_dictCopy, a, ws, rfl, s, q.dct R rs⟩
    · cases ev
  · cases ev
def xDict0 : Ev → M D := fun _ h => some (.ref h.length, h ++ [.dct []])
theorem de_dict0 : DE X (.Dict [] [] pos) xDict0 := PE.le pe_dnewK fun τ H Q ⟨ι, σ, h, d, h', S, ev, q⟩ => by
  cases ev
  exact q.dct (xs := []) (vs := []) S.hp rfl
/-! ### isinstance -/
def isaT (a b : String) : Bool := a == b || (a == "bool" && b == "int")
def tyD (h : Hd) : D → Option String
  | .non => some "NoneType"
  | .bl _ => some "bool"
  | .int _ => some "int"
  | .str _ => some "str"
  | .tup _ => some "tuple"
  | .ref n => match h[n]? with
    | some (.lst _) => some "list"
    | some (.dct _) => some "dict"
    | _ => none
abbrev tyNames : List String := ["NoneType", "bool", "int", "str", "tuple", "list", "dict"]
theorem tyD_ok {K : PySem.W.Frag} {ι : List Addr} {h : Hd} {H : Hp} {x : D} {v : V} {n : String} (R : RelH K ι h H) (r : RD K H ι x v) (e : tyD h x = some n) : TyX K H v (.type n) ∧ n ∈ tyNames := by
  cases x with
  | non => cases e; rw [r.non_inv]; exact ⟨.base .non, by decide⟩
  | bl b => cases e; rw [r.bl_inv]; exact ⟨.base (.bl b), by decide⟩
  | int b => cases e; rw [r.int_inv]; exact ⟨.base (.int b), by decide⟩
  | str b => cases e; rw [r.str_inv]; exact ⟨.base (.str _), by decide⟩
  | tup xs =>
    cases e
    obtain ⟨a, vs, rfl, s, rs⟩ := r.tup_inv
    refine ⟨?_, by decide⟩
    rcases s with (s | ⟨o, s⟩) | ⟨o, its, m, k1, k2, _⟩
    · exact .base (.tup s)
    · exact .fTuple s
    · exact .kTuple k1 k2
  | ref m =>
    simp only [tyD] at e
    split at e
    · rename_i e0
      cases e
      obtain ⟨a, vs, rfl, _, s, rs⟩ := R.lst e0 r
      exact ⟨.base (.lst s), by decide⟩
    · rename_i e0
      cases e
      obtain ⟨a, vs, rfl, _, s, rs⟩ := R.dct e0 r
      exact ⟨.base (.dK s), by decide⟩
    · cases e
theorem kitB_all : (tyNames.all fun a => tyNames.all fun b => decide (kitB a b = some (isaT a b))) = true := by decide +kernel
theorem kitB_isa {a b : String} (ha : a ∈ tyNames) (hb : b ∈ tyNames) : kitB a b = some (isaT a b) :=
  of_decide_eq_true (List.all_eq_true.mp (List.all_eq_true.mp kitB_all a ha) b hb)
theorem kitAny_isa {K : PySem.W.Frag} {a : String} (ha : a ∈ tyNames) : ∀ {bs : List String}, (∀ b ∈ bs, b ∈ tyNames) → PySem.W.kitAny K (.type a) (bs.map Value.type) = some (bs.any fun b => isaT a b)
  | [], _ => kitAny_nil
  | b :: bs, hb => by
    have e := kit_ty (K := K) (kitB_isa ha (hb b List.mem_cons_self))
    have ih := kitAny_isa (K := K) (bs := bs) ha fun c hc => hb c (List.mem_cons_of_mem _ hc)
    refine kitAny_cons e (fun z => ?_) fun z => ?_
    · rw [ih, List.any_cons, z]; rfl
    · rw [List.any_cons, z]; rfl
/-- an expression that is a built-in type -/
def DTy (X : Cx) (e : Expr) (n : String) : Prop := PE X e (tC (.ty n))
theorem dty {x : Str} {n : String} {p : Pos} (hg : Gl X x) (hm : X.mg x = none) (hv : bootBuiltins x = some (.type n)) (hn : x ≠ "__name__" := by decide) (hd : (x == ("__debug__" : Str)) = false := by decide) : DTy X (.Name x p) n := pe_bltn (v := .ty n) hg hm hv rfl hn hd
inductive DTys (X : Cx) : List Expr → List String → Prop
  | nil : DTys X [] []
  | cons {e : Expr} {es : List Expr} {n : String} {ns : List String} (h : DTy X e n) (t : DTys X es ns) (hs : starEach (e :: es) X.env = (false, eval e X.env) :: starEach es X.env) : DTys X (e :: es) (n :: ns)
theorem DTys.pa : ∀ {es : List Expr} {ns : List String}, DTys X es ns → PA X es (fun _ H Q => Q (ns.map V.ty) H)
  | _, _, .nil => PA.le pa_nil fun _ _ _ h => h
  | _, _, .cons h t hs => PA.le (pa_cons h (DTys.pa t) hs) fun _ _ _ h => h
def isiM (ns : List String) (x : D) : M D := fun h => match tyD h x with
  | some a => some (.bl (ns.any fun b => isaT a b), h)
  | none => none
theorem de_isi1 {t : Expr} {n : String} (hg : Gl X "isinstance") (hm : X.mg "isinstance" = none) (ho : DE X o g) (ht : DTy X t n) (hn : n ∈ tyNames := by decide) (he : starEach [o, t] X.env = (false, eval o X.env) :: starEach [t] X.env := by rfl) (he2 : starEach [t] X.env = (false, eval t X.env) :: starEach [] X.env := by rfl) (hpl : (backTo pos (starEach [t] X.env)).any (·.1) = false := by rfl) :
    DE X (.Call (.Name "isinstance" p) [o, t] [] pos) (xUn (isiM [n]) g) := PE.le (pe_callB call_isi hg hm (by decide +kernel) (pa_cons ho (pa_cons ht pa_nil he2) he) (by decide) (by decide) he hpl) fun τ H Q ⟨ι, σ, h, d, h', S, ev, q⟩ => by
  obtain ⟨x, h1, e1, ev⟩ := bnd_some ev
  refine ⟨ι, σ, h, x, h1, S, e1, fun ι1 v1 H1 p1 R1 r1 t1 => ?_⟩
  unfold isiM at ev
  split at ev
  · rename_i a e2
    cases ev
    obtain ⟨ty, ha⟩ := tyD_ok R1 r1 e2
    exact ⟨v1, .ty n, .type a, .type n, _, rfl, .ty n, ty, kit_ty (kitB_isa ha hn), by simpa using (q.step p1 t1).now R1 RD.bl⟩
  · cases ev
theorem paired_ty : ∀ ns : List String, Paired ClsV (ns.map V.ty) (ns.map Value.type)
  | [] => .nil
  | n :: ns => .cons (.ty n) (paired_ty ns)
theorem de_isi {ts : List Expr} {ns : List String} {k1 : Nat} {tpos : Pos} (hg : Gl X "isinstance") (hm : X.mg "isinstance" = none) (ho : DE X o g) (ht : DTys X ts ns) (hn : ∀ b ∈ ns, b ∈ tyNames := by decide) (he : starEach [o, .Tuple ts k1 tpos] X.env = (false, eval o X.env) :: starEach [.Tuple ts k1 tpos] X.env := by rfl) (hpl : (backTo pos (starEach [.Tuple ts k1 tpos] X.env)).any (·.1) = false := by rfl) (hlen : ns.length ≤ 100 := by decide) :
    DE X (.Call (.Name "isinstance" p) [o, .Tuple ts k1 tpos] [] pos) (xUn (isiM ns) g) := PE.le (pe_callB call_isiT hg hm (by decide +kernel) (pa_cons ho (pa_cons (pe_tup ht.pa) pa_nil rfl) he) (by decide) (by decide) he hpl) fun τ H Q ⟨ι, σ, h, d, h', S, ev, q⟩ => by
  obtain ⟨x, h1, e1, ev⟩ := bnd_some ev
  refine ⟨ι, σ, h, x, h1, S, e1, fun ι1 v1 H1 p1 R1 r1 t1 => ?_⟩
  unfold isiM at ev
  split at ev
  · rename_i a e2
    cases ev
    obtain ⟨ty, ha⟩ := tyD_ok R1 r1 e2
    refine ⟨by rw [List.length_map]; exact lim_line (Nat.le_trans hlen (by decide)), fun p hp => ?_⟩
    have R2 := R1.fresh (o := .tup (ns.map V.ty)) hp
    have tx : TExt X.K H1 (upd H1 p (.tup (ns.map V.ty))) := TExt.upd hp
    obtain ⟨ty2, _⟩ := tyD_ok R2 (r1.mono (List.prefix_refl _) tx) e2
    exact ⟨v1, p, ns.map V.ty, .type a, ns.map Value.type, _, rfl, upd_same, paired_ty ns, ty2, kitAny_isa ha hn, q ι1 _ _ p1 R2 RD.bl (t1.trans tx)⟩
  · cases ev
/-! ### methods of built-in types -/
def dynMt (X : Cx) (id : String) : V → List V → Hp → VK → Prop := fun x vs H Q => ∃ r, MtR X id r ∧ r x vs H Q
theorem dynMt_ok {id : String} : MtR X id (dynMt X id) := fun pins s σ H x xs v us Q I rx r ⟨_, hr, q⟩ => hr pins s σ H x xs v us Q I rx r q
/-- o.append(e) -/
def appM (x y : D) : M D := fun h => match x with
  | .ref n => match h[n]? with
    | some (.lst xs) => if xs.length < LIM then some (.non, h.set n (.lst (xs ++ [y]))) else none
    | _ => none
  | _ => none
theorem Pst.wlst {K : PySem.W.Frag} {ι : List Addr} {h : Hd} {H : Hp} {n : Nat} {xs ys : List D} {a : Addr} {vs ws : List V} {d : D} {v : V} {Q : VK} (R : RelH K ι h H) (e : h[n]? = some (.lst xs)) (i : ι[n]? = some a) (s : H a = some (.lst vs)) (rs : RDs K H ι ys ws) (rd : RD K H ι d v) (q : Pst K ι H d (h.set n (.lst ys)) Q) : Q v (upd H a (.lst ws)) := by
  have tw : TExt K H (upd H a (.lst ws)) := TExt.write s rfl
  exact q ι v _ (List.prefix_refl _) (R.write (c := .lst ys) e rfl i ⟨ws, upd_same, rs.mono (List.prefix_refl _) tw⟩ rfl) (rd.mono (List.prefix_refl _) tw) tw
/-- is the value a list -/
def isLst (x : D) : M Unit := fun h => match x with
  | .ref n => match h[n]? with
    | some (.lst _) => some ((), h)
    | _ => none
  | _ => none
theorem isLst_ok {ι : List Addr} {h h' : Hd} {H : Hp} {x : D} {v : V} {u : Unit} (R : RelH X.K ι h H) (r : RD X.K H ι x v) (ev : isLst x h = some (u, h')) : h' = h ∧ ∃ a vs, v = .ref a ∧ H a = some (.lst vs) := by
  unfold isLst at ev
  split at ev
  · split at ev
    · rename_i xs e
      cases ev
      obtain ⟨a, vs, rfl, _, s, _⟩ := R.lst e r
      exact ⟨rfl, a, vs, rfl, s⟩
    · cases ev
  · cases ev
/-- a list's method with one argument, without arguments -/
def xLM (op : D → D → M D) (fo fe : Ev → M D) : Ev → M D := fun σ => bnd (fo σ) fun x => bnd (isLst x) fun _ => bnd (fe σ) fun y => op x y
def xLM0 (op : D → M D) (fo : Ev → M D) : Ev → M D := fun σ => bnd (fo σ) fun x => bnd (isLst x) fun _ => op x
def MtD (X : Cx) (id : String) (op : D → D → M D) : Prop := ∀ (ι : List Addr) (h : Hd) (H : Hp) (x y d : D) (h' : Hd) (vx vy : V) (Q : VK), RelH X.K ι h H → RD X.K H ι x vx → RD X.K H ι y vy → op x y h = some (d, h') → Pst X.K ι H d h' Q → ∃ r, MtR X id r ∧ r vx [vy] H Q
def MtD0 (X : Cx) (id : String) (op : D → M D) : Prop := ∀ (ι : List Addr) (h : Hd) (H : Hp) (x d : D) (h' : Hd) (vx : V) (Q : VK), RelH X.K ι h H → RD X.K H ι x vx → op x h = some (d, h') → Pst X.K ι H d h' Q → ∃ r, MtR X id r ∧ r vx [] H Q
theorem de_lm {name : Str} {id : String} {op : D → D → M D} {fe : Ev → M D} (slot : Slot "list" name id) (hty : typeOf (.builtin id) = pure (.type "method_descriptor")) (hm : MtD X id op) (ho : DE X o g) (he : DE X e fe)
    (hbase : attributeBase o name X.env (eval o X.env) = eval o X.env := by rfl)
    (hfew : ((backTo pos (starEach [e] X.env)).all (fun x => !x.1) && (backToKw pos (keywordEach [] X.env)).all (fun x => x.1.isSome)
      && decide (([e] : List Expr).length + ([] : List Keyword).length + (if ([] : List Keyword).isEmpty then 0 else 1) < 30)) = true := by rfl)
    (hline : (apos.endLine == pos.line) = true := by rfl) (hs : starEach [e] X.env = (false, eval e X.env) :: starEach [] X.env := by rfl) :
    DE X (.Call (.Attribute o name apos) [e] [] pos) (xLM op g fe) := PE.le (pe_bm PySem.F.plainAttrs_list slot hty dynMt_ok ho (pa_cons he pa_nil hs) hbase hfew hline hs rfl) fun τ H Q ⟨ι, σ, h, d, h', S, ev, q⟩ => by
  obtain ⟨x, h1, e1, ev1⟩ := bnd_some ev
  obtain ⟨u, h2, e2, ev2⟩ := bnd_some ev1
  obtain ⟨y, h3, e3, ev3⟩ := bnd_some ev2
  refine ⟨ι, σ, h, x, h1, S, e1, fun ι1 v1 H1 p1 R1 r1 t1 => ?_⟩
  obtain ⟨rfl, a, vs, rfl, s⟩ := isLst_ok R1 r1 e2
  exact ⟨.inl ⟨rfl, _, SqL.of s⟩, ι1, σ, _, y, h3, S.step p1 R1 t1, e3, fun ι2 v2 H2 p2 R2 r2 t2 => hm ι2 h3 H2 x y d h' _ v2 Q R2 (r1.mono p2 t2) r2 ev3 (q.step (p1.trans p2) (t1.trans t2))⟩
theorem de_lm0 {name : Str} {id : String} {op : D → M D} (slot : Slot "list" name id) (hty : typeOf (.builtin id) = pure (.type "method_descriptor")) (hm : MtD0 X id op) (ho : DE X o g)
    (hbase : attributeBase o name X.env (eval o X.env) = eval o X.env := by rfl) (hline : (apos.endLine == pos.line) = true := by rfl) :
    DE X (.Call (.Attribute o name apos) [] [] pos) (xLM0 op g) := PE.le (pe_bm0 PySem.F.plainAttrs_list slot hty dynMt_ok ho hbase hline) fun τ H Q ⟨ι, σ, h, d, h', S, ev, q⟩ => by
  obtain ⟨x, h1, e1, ev1⟩ := bnd_some ev
  obtain ⟨u, h2, e2, ev2⟩ := bnd_some ev1
  refine ⟨ι, σ, h, x, h1, S, e1, fun ι1 v1 H1 p1 R1 r1 t1 => ?_⟩
  obtain ⟨rfl, a, vs, rfl, s⟩ := isLst_ok R1 r1 e2
  exact ⟨.inl ⟨rfl, _, SqL.of s⟩, hm ι1 _ H1 x d h' _ Q R1 r1 ev2 (q.step p1 t1)⟩
theorem m_append : MtD X "list.append" appM := by
  intro ι h H x y d h' vx vy Q R rx ry ev q
  unfold appM at ev
  split at ev
  · rename_i n
    split at ev
    · rename_i xs e
      split at ev
      · rename_i hz
        cases ev
        obtain ⟨a, vs, rfl, i, s, rs⟩ := R.lst e rx
        exact ⟨_, mt_append, a, vs, vy, rfl, rfl, s, by rw [← rs.length]; exact lim_line' (Nat.le_of_lt hz), q.wlst R e i s (rs.append (RDs.cons ry RDs.nil)) RD.non⟩
      · cases ev
    · cases ev
  · cases ev
theorem de_append {fe : Ev → M D} (ho : DE X o g) (he : DE X e fe)
    (hbase : attributeBase o "append" X.env (eval o X.env) = eval o X.env := by rfl)
    (hfew : ((backTo pos (starEach [e] X.env)).all (fun x => !x.1) && (backToKw pos (keywordEach [] X.env)).all (fun x => x.1.isSome)
      && decide (([e] : List Expr).length + ([] : List Keyword).length + (if ([] : List Keyword).isEmpty then 0 else 1) < 30)) = true := by rfl)
    (hline : (apos.endLine == pos.line) = true := by rfl) (hs : starEach [e] X.env = (false, eval e X.env) :: starEach [] X.env := by rfl) :
    DE X (.Call (.Attribute o "append" apos) [e] [] pos) (xLM appM g fe) := de_lm PySem.F.slot_list_append PySem.F.type_list_append m_append ho he hbase hfew hline hs
def popM (x : D) : M D := fun h => match x with
  | .ref n => match h[n]? with
    | some (.lst xs) => match xs[xs.length - 1]? with
      | some d => some (d, h.set n (.lst xs.dropLast))
      | none => none
    | _ => none
  | _ => none
theorem m_pop : MtD0 X "list.pop" popM := by
  intro ι h H x d h' vx Q R rx ev q
  unfold popM at ev
  split at ev
  · rename_i n
    split at ev
    · rename_i xs e
      split at ev
      · rename_i d' e2
        cases ev
        obtain ⟨a, vs, rfl, i, s, rs⟩ := R.lst e rx
        obtain ⟨v, e3, r3⟩ := rs.get e2
        exact ⟨_, mt_pop, a, vs, v, rfl, rfl, s, by rw [← rs.length]; exact e3, q.wlst R e i s rs.dropLast r3⟩
      · cases ev
    · cases ev
  · cases ev
theorem de_pop (ho : DE X o g) (hbase : attributeBase o "pop" X.env (eval o X.env) = eval o X.env := by rfl) (hline : (apos.endLine == pos.line) = true := by rfl) :
    DE X (.Call (.Attribute o "pop" apos) [] [] pos) (xLM0 popM g) := de_lm0 PySem.F.slot_list_pop PySem.F.type_list_pop m_pop ho hbase hline
def revM (x : D) : M D := fun h => match x with
  | .ref n => match h[n]? with
    | some (.lst xs) => some (.non, h.set n (.lst xs.reverse))
    | _ => none
  | _ => none
theorem m_reverse : MtD0 X "list.reverse" revM := by
  intro ι h H x d h' vx Q R rx ev q
  unfold revM at ev
  split at ev
  · split at ev
    · rename_i xs e
      cases ev
      obtain ⟨a, vs, rfl, i, s, rs⟩ := R.lst e rx
      exact ⟨_, mt_reverse, a, vs, rfl, rfl, s, q.wlst R e i s rs.reverse RD.non⟩
    · cases ev
  · cases ev
theorem de_reverse (ho : DE X o g) (hbase : attributeBase o "reverse" X.env (eval o X.env) = eval o X.env := by rfl) (hline : (apos.endLine == pos.line) = true := by rfl) :
    DE X (.Call (.Attribute o "reverse" apos) [] [] pos) (xLM0 revM g) := de_lm0 PySem.F.slot_list_reverse PySem.F.type_list_reverse m_reverse ho hbase hline
/-- xs[::-1] of a list -/
def revSlM (x : D) : M D := fun h => match listOf h x with
  | some xs => some (.ref h.length, h ++ [.lst xs.reverse])
  | none => none
theorem de_revL {k1 : Nat} {q1 q2 q3 : Pos} (ho : DE X o g) : DE X (.Subscript o (.Slice none none (some (.UnaryOp .USub (.Constant (.int 1) k1 q1) q2)) q3) pos) (xUn revSlM g) := PE.le (pe_revL ho) fun τ H Q ⟨ι, σ, h, d, h', S, ev, q⟩ => by
  obtain ⟨x, h1, e1, ev⟩ := bnd_some ev
  refine ⟨ι, σ, h, x, h1, S, e1, fun ι1 v1 H1 p1 R1 r1 t1 => ?_⟩
  unfold revSlM at ev
  split at ev
  · rename_i xs e0
    cases ev
    obtain ⟨a, vs, rfl, s, rs⟩ := listOf_ok R1 e0 r1
    exact ⟨a, vs, rfl, s, (q.step p1 t1).lst R1 rs.reverse⟩
  · cases ev
/-- one of two runs -/
def xAlt (f g : Ev → M D) : Ev → M D := fun σ h => match f σ h with
  | some r => some r
  | none => g σ h
theorem de_alt {g2 : Ev → M D} (h1 : DE X e g) (h2 : DE X e g2) : DE X e (xAlt g g2) := ⟨fun pins s τ H Q I ⟨ι, σ, h, d, h', S, ev, q⟩ => by
  unfold xAlt at ev
  split at ev
  · rename_i r er
    cases ev
    exact h1.run pins s τ H Q I ⟨ι, σ, h, d, h', S, er, q⟩
  · exact h2.run pins s τ H Q I ⟨ι, σ, h, d, h', S, ev, q⟩⟩
/-- two comparisons in a chain -/
def xChain (op op' : D → D → M D) (f g k : Ev → M D) : Ev → M D := fun σ => bnd (f σ) fun x => bnd (g σ) fun y => bnd (op x y) fun z => bnd (isB z) fun b => if b = true then bnd (k σ) fun w => op' y w else ret (.bl false)
theorem chain_le {a b c : Expr} {o1 o2 : CmpOp} {op op' : D → D → M D} {f1 f2 f3 : Ev → M D} (h1 : OpD X (compareOp o1) op) (h2 : OpD X (compareOp o2) op') (τ : L2.St) (H : Hp) (Q : VK) (hw : tD X.K (xChain op op' f1 f2 f3) τ H Q) : tChain (dynR X (compareOp o1)) (dynR X (compareOp o2)) (tD X.K f1) (tD X.K f2) (tD X.K f3) τ H Q := by
  obtain ⟨ι, σ, h, d, h', S, ev, q⟩ := hw
  obtain ⟨x, k1, e1, ev1⟩ := bnd_some ev
  obtain ⟨y, k2, e2, ev2⟩ := bnd_some ev1
  obtain ⟨z, k3, e3, ev3⟩ := bnd_some ev2
  obtain ⟨b, k4, e4, ev4⟩ := bnd_some ev3
  obtain ⟨rfl, rfl⟩ := isB_some e4
  refine ⟨ι, σ, h, x, k1, S, e1, fun ι1 v1 H1 p1 R1 r1 t1 => ⟨ι1, σ, k1, y, k2, S.step p1 R1 t1, e2, fun ι2 v2 H2 p2 R2 r2 t2 => ?_⟩⟩
  refine h1 ι2 k2 H2 x y _ _ v1 v2 _ R2 (r1.mono p2 t2) r2 e3 fun ι3 v3 H3 p3 R3 r3 t3 => ?_
  obtain rfl := r3.bl_inv
  refine ⟨b, rfl, ?_⟩
  have S3 := ((S.step p1 R1 t1).step p2 R2 t2).step p3 R3 t3
  have q3 := q.step (p1.trans (p2.trans p3)) (t1.trans (t2.trans t3))
  cases b with
  | true =>
    obtain ⟨w, k5, e5, ev5⟩ := bnd_some (show bnd (f3 σ) _ _ = _ from ev4)
    refine iteT ⟨ι3, σ, _, w, k5, S3, e5, fun ι4 v4 H4 p4 R4 r4 t4 => ?_⟩
    exact h2 ι4 k5 H4 y w d h' v2 v4 Q R4 ((r2.mono p3 t3).mono p4 t4) r4 ev5 (q3.step p4 t4)
  | false =>
    cases ev4
    exact iteF (q3.now R3 RD.bl)
theorem de_chain {a b c : Expr} {o1 o2 : CmpOp} {op op' : D → D → M D} {f1 f2 f3 : Ev → M D} (h1 : OpD X (compareOp o1) op) (h2 : OpD X (compareOp o2) op') (ha : DE X a f1) (hb : DE X b f2) (hc : DE X c f3)
    (hm : lastMarks [o1, o2] [b, c] = false := by with_unfolding_all rfl) : DE X (.Compare a [o1, o2] [b, c] pos) (xChain op op' f1 f2 f3) := PE.le (pe_chain (dyn_ok (F := compareOp o1)) (dyn_ok (F := compareOp o2)) ha hb hc hm) fun τ H Q hw => chain_le (a := a) (b := b) (c := c) h1 h2 τ H Q hw
def xChainT (op op' : D → D → M D) (f g k : Ev → M D) : Ev → M Bool := fun σ => bnd (xChain op op' f g k σ) isB
theorem dt_chain {a b c : Expr} {o1 o2 : CmpOp} {op op' : D → D → M D} {f1 f2 f3 : Ev → M D} (h1 : OpD X (compareOp o1) op) (h2 : OpD X (compareOp o2) op') (ha : DE X a f1) (hb : DE X b f2) (hc : DE X c f3)
    (hm : lastMarks [o1, o2] [b, c] = false := by with_unfolding_all rfl) : DT X (.Compare a [o1, o2] [b, c] pos) (xChainT op op' f1 f2 f3) := PT.le (pt_chain (dyn_ok (F := compareOp o1)) (dyn_ok (F := compareOp o2)) ha hb hc hm) fun τ H Q ⟨ι, σ, h, d, h', S, ev, q⟩ => by
  obtain ⟨x, k1, e1, ev1⟩ := bnd_some ev
  obtain ⟨rfl, rfl⟩ := isB_some ev1
  exact chain_le (a := a) (b := b) (c := c) h1 h2 τ H _ ⟨ι, σ, h, _, _, S, e1, fun ι' v H' p R r t => ⟨d, r.bl_inv, q ι' H' p R t⟩⟩
end
end Dt

set_option Elab.async false
set_option linter.all false
set_option autoImplicit false
set_option maxRecDepth 100000
/-! DtG: what the head tells, defs by name, the law's end. -/
namespace Dt
open PySem PySem.Spec PyProof.Rows L2

structure Tx (fa : List He.Fa) (fn : List He.DefD) (K : PySem.W.Frag) (mg : Str → Option Value) : Prop where
  h : ∃ h : Heap, K.In h ∧ h.Ns mainGlobals mg
  s : He.SaysD fa fn K
section
variable {fa : List He.Fa} {fn : List He.DefD} {K : PySem.W.Frag} {mg : Str → Option Value}
theorem Tx.glo (T : Tx fa fn K mg) (i : Nat) {x : Str} (e : fa[i]? = some (.glo x) := by rfl) : mg x = some (.ref (He.ga K x)) := let ⟨_, X, G⟩ := T.h; He.glo_ok X G (T.s.fact i e)
theorem Tx.free (T : Tx fa fn K mg) (i : Nat) {x : Str} (e : fa[i]? = some (.free x) := by rfl) : mg x = none := let ⟨_, X, G⟩ := T.h; He.free_ok X G (T.s.fact i e)
theorem Tx.int (T : Tx fa fn K mg) (i : Nat) {x : Str} {n : Int} (e : fa[i]? = some (.int x n) := by rfl) : ∃ t, mg x = some (.int n t) := let ⟨_, X, G⟩ := T.h; He.int_ok X G (T.s.fact i e)
theorem Tx.cls (T : Tx fa fn K mg) (i : Nat) {x : Str} (e : fa[i]? = some (.cls x) := by rfl) : Cls K (He.ga K x) := He.cls_ok (T.s.fact i e)
theorem Tx.noat (T : Tx fa fn K mg) (i : Nat) {x f : Str} (e : fa[i]? = some (.noat x f) := by rfl) : NoAttr K (He.ga K x) f := He.noat_ok (T.s.fact i e)
theorem Tx.meth (T : Tx fa fn K mg) (i : Nat) {x m : Str} (e : fa[i]? = some (.meth x m) := by rfl) : Meth K (He.ga K x) m (He.ma K (He.ga K x) m) := He.meth_ok (T.s.fact i e)
theorem Tx.mkr (T : Tx fa fn K mg) (i : Nat) {x : Str} (e : fa[i]? = some (.mkr x) := by rfl) : Mk K (He.ga K x) (He.ma K (He.ga K x) "__init__") := He.mkr_ok (T.s.fact i e)
theorem Tx.def_ (T : Tx fa fn K mg) (i : Nat) {d : He.DefD} (e : fn[i]? = some d := by rfl) : ∃ fd, FunD K d.name d.qual d.params d.body d.scope (d.dvs K) (d.kws K) (He.fAd K d.at_) fd := T.s.def_ i e
end
/-- a global def: at level k, of n parameters, it runs as F; dds: the defaults that a call leaves out -/
structure FnG (P : Program) (w : World) (K : PySem.W.Frag) (mg : Str → Option Value) (base : Heap) (x : Str) (k n : Nat) (F : List D → M D) (dds : List D) : Prop where
  ex : ∃ (f : Addr) (fd : FuncData) (ps : List Str) (ds : List Value) (dvs : List V), FnOk P w K mg base CX0 k f fd ps (spD K n F) ∧ mg x = some (.ref f) ∧ PySem.W.keepIn K (.ref f) = true ∧ Binds K fd ps ds ∧ Vals dvs ds ∧ ∀ H ι, RDs K H ι dds dvs
  len : LenOk n F
/-- a method of the class c -/
structure FnM (P : Program) (w : World) (K : PySem.W.Frag) (mg : Str → Option Value) (base : Heap) (c m : String) (k n : Nat) (F : List D → M D) (dds : List D) : Prop where
  ex : ∃ (f : Addr) (fd : FuncData) (ps : List Str) (ds : List Value) (dvs : List V), FnOk P w K mg base CX0 k f fd ps (spD K n F) ∧ Meth K (He.ga K (Str.ofString c)) (Str.ofString m) f ∧ Binds K fd ps ds ∧ Vals dvs ds ∧ ∀ H ι, RDs K H ι dds dvs
  cl : Cls K (He.ga K (Str.ofString c))
  len : LenOk n F
/-- a class, made -/
structure FnI (P : Program) (w : World) (K : PySem.W.Frag) (mg : Str → Option Value) (base : Heap) (c : String) (k n : Nat) (F : List D → M D) (dds : List D) : Prop where
  ex : ∃ (f : Addr) (fd : FuncData) (ps : List Str) (ds : List Value) (dvs : List V), FnOk P w K mg base CX0 k f fd ps (spD K n F) ∧ Mk K (He.ga K (Str.ofString c)) f ∧ mg (Str.ofString c) = some (.ref (He.ga K (Str.ofString c))) ∧ Binds K fd ps ds ∧ Vals dvs ds ∧ ∀ H ι, RDs K H ι dds dvs
  len : LenOk n F
section
variable {X : Cx} {k k2 n : Nat} {Fm : List D → M D} {dds : List D} {x : Str} {c m : String} {p pos apos : Pos} {e o : Expr} {es : List Expr} {g : Ev → M D} {fs : Ev → M (List D)}
theorem cg (G : FnG X.prog X.w X.K X.mg X.base x k n Fm dds) (hr : Room k2 X.A) (ha : DA X (e :: es) fs) (hk : k ≤ k2 := by decide) (hg : Gl X x := by rfl) (hdb : (x == ("__debug__" : Str)) = false := by decide) (he : starEach (e :: es) X.env = (false, eval e X.env) :: starEach es X.env := by rfl) (hpl : (backTo pos (starEach es X.env)).any (·.1) = false := by rfl) :
    DE X (.Call (.Name x p) (e :: es) [] pos) (xCall Fm dds fs) := by
  obtain ⟨⟨f, fd, ps, ds, dvs, F, hm, kp, hb, hd, hdd⟩, hl⟩ := G
  exact de_call F (hr.mono hk) hg hm kp hb hd hdd hl ha hdb he hpl
theorem cg0 (G : FnG X.prog X.w X.K X.mg X.base x k n Fm dds) (hr : Room k2 X.A) (hk : k ≤ k2 := by decide) (hg : Gl X x := by rfl) (hdb : (x == ("__debug__" : Str)) = false := by decide) : DE X (.Call (.Name x p) [] [] pos) (xCall Fm dds xNil) := by
  obtain ⟨⟨f, fd, ps, ds, dvs, F, hm, kp, hb, hd, hdd⟩, hl⟩ := G
  exact de_call0 F (hr.mono hk) hg hm kp hb hd hdd hl hdb
theorem cm {pl : Sem Bool} (G : FnM X.prog X.w X.K X.mg X.base c m k n Fm dds) (hr : Room k2 X.A) (ho : DE X o g) (ha : DA X (e :: es) fs) (hk : k ≤ k2 := by decide) (hst : starEach (e :: es) X.env = (false, eval e X.env) :: starEach es X.env := by rfl) (hpl : (backTo pos (starEach es X.env)).any (·.1) = false := by rfl)
    (ht : eval (.Call (.Attribute o (Str.ofString m) apos) (e :: es) [] pos) X.env = (do
      let ov ← eval o X.env
      standAt apos.atName
      let (f, first) ← holding [ov] (getMethod ov (Str.ofString m) pl)
      callWith pos f first (backTo pos (starEach (e :: es) X.env)) (backToKw pos (keywordEach [] X.env))) := by rfl) :
    DE X (.Call (.Attribute o (Str.ofString m) apos) (e :: es) [] pos) (xMeth c m Fm dds g fs) := by
  obtain ⟨⟨f, fd, ps, ds, dvs, F, hm, hb, hd, hdd⟩, cl, hl⟩ := G
  exact de_meth (pl := pl) F (hr.mono hk) cl hm hb hd hdd hl ho ha hst hpl ht
theorem cm0 {pl : Sem Bool} (G : FnM X.prog X.w X.K X.mg X.base c m k n Fm dds) (hr : Room k2 X.A) (ho : DE X o g) (hk : k ≤ k2 := by decide)
    (ht : eval (.Call (.Attribute o (Str.ofString m) apos) [] [] pos) X.env = (do
      let ov ← eval o X.env
      standAt apos.atName
      let (f, first) ← holding [ov] (getMethod ov (Str.ofString m) pl)
      callWith pos f first (backTo pos (starEach [] X.env)) (backToKw pos (keywordEach [] X.env))) := by rfl) :
    DE X (.Call (.Attribute o (Str.ofString m) apos) [] [] pos) (xMeth c m Fm dds g xNil) := by
  obtain ⟨⟨f, fd, ps, ds, dvs, F, hm, hb, hd, hdd⟩, cl, hl⟩ := G
  exact de_meth0 (pl := pl) F (hr.mono hk) cl hm hb hd hdd hl ho ht
theorem ci (G : FnI X.prog X.w X.K X.mg X.base c k n Fm dds) (hr : Room k2 X.A) (ha : DA X (e :: es) fs) (hk : k + 1 ≤ k2 := by decide) (hg : Gl X (Str.ofString c) := by rfl) (hdb : (Str.ofString c == ("__debug__" : Str)) = false := by decide) (he : starEach (e :: es) X.env = (false, eval e X.env) :: starEach es X.env := by rfl) (hpl : (backTo pos (starEach es X.env)).any (·.1) = false := by rfl) :
    DE X (.Call (.Name (Str.ofString c) p) (e :: es) [] pos) (xMake c Fm dds fs) := by
  obtain ⟨⟨f, fd, ps, ds, dvs, F, hM, hm, hb, hd, hdd⟩, hl⟩ := G
  exact de_make hM F (hr.mono hk) hg hm hb hd hdd hl ha hdb he hpl
theorem ci0 (G : FnI X.prog X.w X.K X.mg X.base c k n Fm dds) (hr : Room k2 X.A) (hk : k + 1 ≤ k2 := by decide) (hg : Gl X (Str.ofString c) := by rfl) (hdb : (Str.ofString c == ("__debug__" : Str)) = false := by decide) :
    DE X (.Call (.Name (Str.ofString c) p) [] [] pos) (xMake c Fm dds xNil) := by
  obtain ⟨⟨f, fd, ps, ds, dvs, F, hM, hm, hb, hd, hdd⟩, hl⟩ := G
  exact de_make0 hM F (hr.mono hk) hg hm hb hd hdd hl hdb
end
/-- the law's promise from its run -/
theorem law_end {K : PySem.W.Frag} {F : List D → M D} {n : Nat} (hF : ∀ ns : List Int, ns.length ≤ n → ∃ h', F [.ref 0] [.ro (ns.map D.int)] = some (.bl true, h')) (H : Hp) (a : Addr) (ns : List Int) (hl : ns.length ≤ n) (hO : Only H) (hS : SqL K H a (ns.map V.int)) :
    spD K 1 F [.ref a] H (fun v _ => v = .bl true) fun _ _ _ => False := by
  obtain ⟨h', e⟩ := hF ns hl
  have sr : SqR K H a (ns.map V.int) := by
    rcases hS with (h | h) | h
    · rcases hO a with z | ⟨o, xs, z⟩
      · rw [h] at z; cases z
      · rw [h] at z; cases z
    · exact .inl h
    · exact .inr h
  have R : RelH K [a] [.ro (ns.map D.int)] H := by
    refine ⟨rfl, fun i c b e1 e2 => ?_, fun i j b c d e1 e2 e3 e4 m1 m2 => ?_⟩
    · cases i with
      | zero => cases e1; cases e2; exact ⟨_, sr, RDs.of_ints ns⟩
      | succ i => simp at e1
    · cases i with
      | zero => cases e3; cases m1
      | succ i => simp at e3
  exact ⟨[a], _, [.ref 0], .bl true, h', R, RDs.cons (RD.ref rfl) RDs.nil, rfl, e, fun ι' v H' p R' r t => r.bl_inv⟩
end Dt

set_option Elab.async false
set_option linter.all false
set_option autoImplicit false
set_option maxRecDepth 100000
/-! DtW: what a run needs so that it ends as wished; steps for simp. -/
namespace Dt
open PySem
/-- keeps simp out of what is not yet reached -/
inductive Tag {α : Type} (m : M α) (h : Hd) (Q : α → Hd → Prop) : Type where
  | mk
inductive TagV (h : Hd) (Q : D → Hd → Prop) : Type where
  | mk
def W {α : Type} (m : M α) (h : Hd) (Q : α → Hd → Prop) (_ : Tag m h Q := Tag.mk) : Prop := ∃ a h', m h = some (a, h') ∧ Q a h'
def W0 {α : Type} (m : M α) (h : Hd) (Q : α → Hd → Prop) : Prop := ∃ a h', m h = some (a, h') ∧ Q a h'
theorem W_eq0 {α : Type} {m : M α} {h : Hd} {Q : α → Hd → Prop} : W m h Q = W0 m h Q := rfl
theorem W.mono {α : Type} {m : M α} {h : Hd} {Q Q' : α → Hd → Prop} (w : W m h Q) (k : ∀ a h', Q a h' → Q' a h') : W m h Q' := by
  obtain ⟨a, h', e, q⟩ := w
  exact ⟨a, h', e, k a h' q⟩
theorem W.ex {α : Type} {m : M α} {h : Hd} {a : α} (w : W m h fun x _ => x = a) : ∃ h', m h = some (a, h') := by
  obtain ⟨x, h', e, q⟩ := w
  exact ⟨h', by rw [e, q]⟩
variable {α β : Type} {h : Hd} {σ : Ev}
theorem V_some {a : α} {h' : Hd} {m : M α} {Q : α → Hd → Prop} (e : m h = some (a, h')) : W0 m h Q = Q a h' := by
  apply propext
  constructor
  · rintro ⟨x, h1, e1, q⟩; rw [e] at e1; cases e1; exact q
  · intro q; exact ⟨a, h', e, q⟩
theorem V_no {m : M α} {Q : α → Hd → Prop} (e : m h = none) : W0 m h Q = False := by
  apply propext
  constructor
  · rintro ⟨x, h1, e1, q⟩; rw [e] at e1; cases e1
  · exact False.elim
theorem V_ite {p : Prop} [Decidable p] {a : α} {h' : Hd} {m : M α} {Q : α → Hd → Prop} (e : m h = if p then some (a, h') else none) : W0 m h Q = (p ∧ Q a h') := by
  by_cases c : p
  · rw [if_pos c] at e; rw [V_some e]; simp only [c, true_and]
  · rw [if_neg c] at e; rw [V_no e]; simp only [c, false_and]
theorem V_ret {a : α} {Q : α → Hd → Prop} : W0 (ret a) h Q = Q a h := V_some rfl
theorem V_bnd {m : M α} {f : α → M β} {Q : β → Hd → Prop} : W0 (bnd m f) h Q = W0 m h fun a h' => W0 (f a) h' Q := by
  apply propext
  unfold W0
  constructor
  · rintro ⟨a, h', e, q⟩
    obtain ⟨x, h1, e1, e2⟩ := bnd_some e
    exact ⟨x, h1, e1, a, h', e2, q⟩
  · rintro ⟨x, h1, e1, a, h', e2, q⟩
    exact ⟨a, h', by unfold bnd; rw [e1]; exact e2, q⟩
theorem V_if {b : Bool} {m m' : M α} {Q : α → Hd → Prop} : W0 (if b = true then m else m') h Q = if b = true then W0 m h Q else W0 m' h Q := by
  split <;> rfl
theorem W_ret {a : α} {Q : α → Hd → Prop} : W (ret a) h Q = Q a h := V_ret
theorem W_bnd {m : M α} {f : α → M β} {Q : β → Hd → Prop} : W (bnd m f) h Q = W m h fun a h' => W (f a) h' Q := V_bnd
theorem W_none {Q : α → Hd → Prop} : W (fun _ => none) h Q = False := V_no (h := h) (m := fun _ => none) rfl
theorem W_some {a : α} {h' : Hd} {m : M α} {Q : α → Hd → Prop} (e : m h = some (a, h')) : W m h Q = Q a h' := V_some e
theorem W.of {a : α} {h' : Hd} {m : M α} {Q : α → Hd → Prop} (e : m h = some (a, h')) (q : Q a h') : W m h Q := ⟨a, h', e, q⟩
variable {Q : D → Hd → Prop} {QB : Bool → Hd → Prop} {QS : Fl → Hd → Prop} {QA : List D → Hd → Prop} {QE : Ev → Hd → Prop} {QU : Unit → Hd → Prop} {QR : Src → Hd → Prop} {QO : Option Int → Hd → Prop}
/-- a name's value -/
def WV (o : Option (Option D)) (h : Hd) (Q : D → Hd → Prop) (_ : TagV h Q := TagV.mk) : Prop := ∃ d, o = some (some d) ∧ Q d h
theorem WV_some {d : D} : WV (some (some d)) h Q = Q d h := by simp [WV]
theorem W_V {i : Nat} : W (xV i σ) h Q = WV σ[i]? h Q := by
  unfold W xV WV
  apply propext
  constructor
  · rintro ⟨a, h', e, q⟩
    split at e
    · rename_i d e1; cases e; exact ⟨_, e1, q⟩
    · cases e
  · rintro ⟨d, e, q⟩
    exact ⟨d, h, by rw [e], q⟩
theorem W_C {d : D} : W (xC d σ) h Q = Q d h := W_ret
theorem W_op {op : D → D → M D} {f g : Ev → M D} : W (xOp op f g σ) h Q = W (f σ) h fun x h1 => W (g σ) h1 fun y h2 => W (op x y) h2 Q := by
  unfold xOp; simp only [W_eq0, V_bnd]
theorem W_cmpT {op : D → D → M D} {f g : Ev → M D} : W (xCmpT op f g σ) h QB = W (f σ) h fun x h1 => W (g σ) h1 fun y h2 => W (op x y) h2 fun z h3 => W (isB z) h3 QB := by
  unfold xCmpT; simp only [W_eq0, V_bnd]
theorem W_isB {b : Bool} : W (isB (.bl b)) h QB = QB b h := W_ret
theorem W_un {op : D → M D} {f : Ev → M D} : W (xUn op f σ) h Q = W (f σ) h fun x h1 => W (op x) h1 Q := by
  unfold xUn; simp only [W_eq0, V_bnd]
theorem W_tru {f : Ev → M D} : W (xTru f σ) h QB = W (f σ) h fun x h1 => W (truM x) h1 QB := by
  unfold xTru; simp only [W_eq0, V_bnd]
theorem W_truB {b : Bool} : W (truM (.bl b)) h QB = QB b h := W_some rfl
theorem W_truI {i : Int} : W (truM (.int i)) h QB = QB (i != 0) h := W_some rfl
theorem W_andT {f g : Ev → M Bool} : W (xAndT f g σ) h QB = W (f σ) h fun b h1 => if b = true then W (g σ) h1 QB else QB false h1 := by
  unfold xAndT; simp only [W_eq0, V_bnd, V_if, V_ret]
theorem W_orT {f g : Ev → M Bool} : W (xOrT f g σ) h QB = W (f σ) h fun b h1 => if b = true then QB true h1 else W (g σ) h1 QB := by
  unfold xOrT; simp only [W_eq0, V_bnd, V_if, V_ret]
theorem W_notT {f : Ev → M Bool} : W (xNotT f σ) h QB = W (f σ) h fun b h1 => QB (!b) h1 := by
  unfold xNotT; simp only [W_eq0, V_bnd, V_ret]
theorem W_andV {f g : Ev → M D} : W (xAndV f g σ) h Q = W (f σ) h fun x h1 => W (isB x) h1 fun b h2 => if b = true then W (g σ) h2 Q else Q (.bl false) h2 := by
  unfold xAndV; simp only [W_eq0, V_bnd, V_if, V_ret]
theorem W_orV {f g : Ev → M D} : W (xOrV f g σ) h Q = W (f σ) h fun x h1 => W (isB x) h1 fun b h2 => if b = true then Q (.bl true) h2 else W (g σ) h2 Q := by
  unfold xOrV; simp only [W_eq0, V_bnd, V_if, V_ret]
theorem W_notV {f : Ev → M D} : W (xNotV f σ) h Q = W (f σ) h fun x h1 => W (isB x) h1 fun b h2 => Q (.bl (!b)) h2 := by
  unfold xNotV; simp only [W_eq0, V_bnd, V_ret]
theorem W_ife {t : Ev → M Bool} {f g : Ev → M D} : W (xIf t f g σ) h Q = W (t σ) h fun b h1 => if b = true then W (f σ) h1 Q else W (g σ) h1 Q := by
  unfold xIf; simp only [W_eq0, V_bnd, V_if]
theorem W_nil : W (xNil σ) h QA = QA [] h := W_ret
theorem W_cons {f : Ev → M D} {g : Ev → M (List D)} : W (xCons f g σ) h QA = W (f σ) h fun x h1 => W (g σ) h1 fun xs h2 => QA (x :: xs) h2 := by
  unfold xCons; simp only [W_eq0, V_bnd, V_ret]
theorem W_tup {g : Ev → M (List D)} : W (xTup g σ) h Q = W (g σ) h fun xs h1 => xs.length ≤ LIM ∧ Q (.tup xs) h1 := by
  unfold xTup; simp only [W_eq0, V_bnd]; congr; funext xs h1; exact V_ite rfl
theorem W_lst {g : Ev → M (List D)} : W (xLst g σ) h Q = W (g σ) h fun xs h1 => xs.length ≤ LIM ∧ Q (.ref h1.length) (h1 ++ [.lst xs]) := by
  unfold xLst; simp only [W_eq0, V_bnd]; congr; funext xs h1; exact V_ite rfl
theorem W_addI {i j : Int} : W (addM (.int i) (.int j)) h Q = Q (.int (i + j)) h := W_some rfl
theorem W_subI {i j : Int} : W (subM (.int i) (.int j)) h Q = Q (.int (i - j)) h := W_some rfl
theorem W_iaddI {i j : Int} : W (iaddM (.int i) (.int j)) h Q = Q (.int (i + j)) h := W_some rfl
theorem W_negI {i : Int} : W (negM (.int i)) h Q = Q (.int (-i)) h := W_some rfl
theorem W_mulI {i j : Int} : W (mulM (.int i) (.int j)) h Q = (((-18446744073709551616 < i ∧ i < 18446744073709551616) ∨ (-18446744073709551616 < j ∧ j < 18446744073709551616)) ∧ Q (.int (i * j)) h) := V_ite rfl
theorem W_fdivI {i j : Int} : W (fdivM (.int i) (.int j)) h Q = ((0 < j ∧ j < 1073741824) ∧ Q (.int (i / j)) h) := V_ite rfl
theorem W_modI {i j : Int} : W (modM (.int i) (.int j)) h Q = (0 < j ∧ Q (.int (i % j)) h) := V_ite rfl
theorem W_powI {i j : Int} : W (powM (.int i) (.int j)) h Q = ((0 ≤ j ∧ j ≤ 1000000 ∧ i.natAbs < 18446744073709551616) ∧ Q (.int (i ^ j.toNat)) h) := V_ite rfl
theorem W_cmpI {p : Int → Int → Bool} {i j : Int} : W (cmpM p (.int i) (.int j)) h Q = Q (.bl (p i j)) h := W_some rfl
theorem W_isB_bl {a b : Bool} : W (isM (.bl a) (.bl b)) h Q = Q (.bl (a == b)) h := W_some rfl
theorem W_isNB {b : Bool} : W (isM .non (.bl b)) h Q = Q (.bl false) h := W_some rfl
theorem W_isN {d : D} : W (isM d .non) h Q = Q (.bl (isNonD d)) h := W_some rfl
theorem W_isntB {a b : Bool} : W (isntM (.bl a) (.bl b)) h Q = Q (.bl (!(a == b))) h := W_some rfl
theorem W_isntN {d : D} : W (isntM d .non) h Q = Q (.bl (!isNonD d)) h := W_some rfl
theorem W_eq {x y : D} {p q : PyData} (e1 : toPy h DEEP x = some p) (e2 : toPy h DEEP y = some q) (s1 : SeqAt.shaped p = true) (s2 : SeqAt.shaped q = true) : W (eqM x y) h Q = Q (.bl (PyData.eqv p q)) h :=
  W_some (by unfold eqM; rw [e1, e2]; simp only [s1, s2, and_self, if_true])
theorem W_ne {x y : D} {p q : PyData} (e1 : toPy h DEEP x = some p) (e2 : toPy h DEEP y = some q) (s1 : SeqAt.shaped p = true) (s2 : SeqAt.shaped q = true) : W (neM x y) h Q = Q (.bl (!PyData.eqv p q)) h :=
  W_some (by unfold neM; rw [e1, e2]; simp only [s1, s2, and_self, if_true])
theorem W_eqI {i j : Int} : W (eqM (.int i) (.int j)) h Q = Q (.bl (i == j)) h := by
  rw [W_eq (p := .int i) (q := .int j) rfl rfl rfl rfl]
  rfl
theorem W_neI {i j : Int} : W (neM (.int i) (.int j)) h Q = Q (.bl (!(i == j))) h := by
  rw [W_ne (p := .int i) (q := .int j) rfl rfl rfl rfl]
  rfl
/-! statements -/
theorem W_seq {g g2 : Ev → M Fl} : W (xSeq g g2 σ) h QS = W (g σ) h fun r h1 => match r with
    | .nx σ' => W (g2 σ') h1 QS
    | .rt d => QS (.rt d) h1
    | .bk σ' => QS (.bk σ') h1
    | .ct σ' => QS (.ct σ') h1 := by
  unfold xSeq; simp only [W_eq0, V_bnd]; congr; funext r h1
  cases r <;> first | rfl | exact V_ret
theorem W_pass : W (xPass σ) h QS = QS (.nx σ) h := W_ret
theorem W_brk : W (xBreak σ) h QS = QS (.bk σ) h := W_ret
theorem W_cont : W (xCont σ) h QS = QS (.ct σ) h := W_ret
theorem W_drop {f : Ev → M D} : W (xDrop f σ) h QS = W (f σ) h fun _ h1 => QS (.nx σ) h1 := by
  unfold xDrop; simp only [W_eq0, V_bnd, V_ret]
theorem W_rt {f : Ev → M D} : W (xRet f σ) h QS = W (f σ) h fun x h1 => QS (.rt x) h1 := by
  unfold xRet; simp only [W_eq0, V_bnd, V_ret]
theorem W_rtN : W (xRetN σ) h QS = QS (.rt .non) h := W_ret
theorem W_ifS {c : Ev → M Bool} {g g2 : Ev → M Fl} : W (xIfS c g g2 σ) h QS = W (c σ) h fun b h1 => if b = true then W (g σ) h1 QS else W (g2 σ) h1 QS := by
  unfold xIfS; simp only [W_eq0, V_bnd, V_if]
theorem W_asg {f : Ev → M D} {t : D → Ev → M Ev} : W (xAsg f t σ) h QS = W (f σ) h fun d h1 => W (t d σ) h1 fun σ' h2 => QS (.nx σ') h2 := by
  unfold xAsg; simp only [W_eq0, V_bnd, V_ret]
theorem W_set {i : Nat} {d : D} : W (gSet i d σ) h QE = QE (σ.set i (some d)) h := W_ret
theorem W_gsNil : W (gsNil [] σ) h QE = QE σ h := W_some rfl
theorem W_gsCons {t : D → Ev → M Ev} {ts : List D → Ev → M Ev} {d : D} {ds : List D} : W (gsCons t ts (d :: ds) σ) h QE = W (t d σ) h fun σ' h1 => W (ts ds σ') h1 QE := W_bnd (m := t d σ) (f := fun σ' => ts ds σ')
theorem W_gTup {n : Nat} {ts : List D → Ev → M Ev} {xs : List D} : W (gTupD n ts (.tup xs) σ) h QE = (xs.length = n ∧ W (ts xs σ) h QE) := by
  apply propext
  by_cases c : xs.length = n
  · simp only [c, true_and]
    constructor
    · rintro ⟨a, h', e, q⟩; exact ⟨a, h', by simpa only [gTupD, itemsOf, c, if_true] using e, q⟩
    · rintro ⟨a, h', e, q⟩; exact ⟨a, h', by simpa only [gTupD, itemsOf, c, if_true] using e, q⟩
  · simp only [c, false_and, iff_false]
    rintro ⟨a, h', e, q⟩
    simp only [gTupD, itemsOf, c, if_false] at e
    cases e
theorem W_aug {i : Nat} {f : Ev → M D} {op : D → D → M D} : W (xAug i f op σ) h QS = WV σ[i]? h fun x h => W (f σ) h fun y h1 => W (op x y) h1 fun z h2 => QS (.nx (σ.set i (some z))) h2 := by
  unfold WV
  apply propext
  constructor
  · rintro ⟨a, h', e, q⟩
    unfold xAug at e
    split at e
    · rename_i d e1
      refine ⟨d, e1, ?_⟩
      have : W0 (bnd (f σ) (fun y => bnd (op d y) fun z => ret (.nx (σ.set i (some z))))) h QS := ⟨a, h', e, q⟩
      simpa only [W_eq0, V_bnd, V_ret] using this
    · cases e
  · rintro ⟨d, e1, q⟩
    have : W0 (bnd (f σ) (fun y => bnd (op d y) fun z => ret (.nx (σ.set i (some z))))) h QS := by simpa only [W_eq0, V_bnd, V_ret] using q
    obtain ⟨a, h', e, q⟩ := this
    exact ⟨a, h', by unfold xAug; rw [e1]; exact e, q⟩
/-! calls -/
theorem W_call {F : List D → M D} {dds : List D} {fs : Ev → M (List D)} : W (xCall F dds fs σ) h Q = W (fs σ) h fun xs h1 => W (F (xs ++ dds)) h1 Q := by
  unfold xCall; simp only [W_eq0, V_bnd]
theorem W_B {op : List D → M D} {fs : Ev → M (List D)} : W (xB op fs σ) h Q = W (fs σ) h fun xs h1 => W (op xs) h1 Q := by
  unfold xB; simp only [W_eq0, V_bnd]
def RtN (Q : D → Hd → Prop) : Fl → Hd → Prop := fun r h => match r with
  | .rt d => Q d h
  | .nx _ => Q .non h
  | _ => False
theorem RtN_rt {d : D} : RtN Q (.rt d) h = Q d h := rfl
theorem RtN_nx : RtN Q (.nx σ) h = Q .non h := rfl
theorem W_run {n N : Nat} {g : Ev → M Fl} {ds : List D} (e : ds.length = n) : W (runD n N g ds) h Q = W (g (startD N ds)) h (RtN Q) := by
  unfold W runD; apply propext; rw [if_pos e]
  constructor
  · rintro ⟨a, h', e, q⟩
    split at e
    · rename_i e1; cases e; exact ⟨_, _, e1, q⟩
    · rename_i e1; cases e; exact ⟨_, _, e1, q⟩
    · cases e
  · rintro ⟨a, h', e, q⟩
    rw [e]
    cases a with
    | rt d => exact ⟨_, _, rfl, q⟩
    | nx σ => exact ⟨_, _, rfl, q⟩
    | bk σ => exact q.elim
    | ct σ => exact q.elim
theorem w_run {n N : Nat} {g : Ev → M Fl} {ds : List D} (e : ds.length = n) (w : W (g (startD N ds)) h (RtN Q)) : W (runD n N g ds) h Q := (W_run e).mpr w
theorem W_lenT {xs : List D} : W (lenM [.tup xs]) h Q = Q (.int (xs.length : Nat)) h := W_some rfl
/-- the items behind a ref -/
theorem W_lenL {n : Nat} {xs : List D} (e : h[n]? = some (.lst xs)) : W (lenM [.ref n]) h Q = Q (.int (xs.length : Nat)) h := W_some (by simp only [lenM, itemsOf, e])
theorem W_lenR {n : Nat} {xs : List D} (e : h[n]? = some (.ro xs)) : W (lenM [.ref n]) h Q = Q (.int (xs.length : Nat)) h := W_some (by simp only [lenM, itemsOf, e])
theorem W_abs {i : Int} : W (absM [.int i]) h Q = Q (.int (if i < 0 then -i else i)) h := W_some rfl
theorem W_intI {i : Int} : W (intM [.int i]) h Q = Q (.int i) h := W_some rfl
theorem W_intB {b : Bool} : W (intM [.bl b]) h Q = Q (.int (if b then 1 else 0)) h := W_some rfl
theorem W_ixT {xs : List D} {k : Int} {d : D} (e : L2.atI xs k = some d) : W (ixM (.tup xs) (.int k)) h Q = Q d h := W_some (by simp only [ixM, itemsOf, e])
theorem W_ixL {n : Nat} {xs : List D} {k : Int} {d : D} (e : h[n]? = some (.lst xs)) (e2 : L2.atI xs k = some d) : W (ixM (.ref n) (.int k)) h Q = Q d h := W_some (by simp only [ixM, itemsOf, e, e2])
theorem W_ixR {n : Nat} {xs : List D} {k : Int} {d : D} (e : h[n]? = some (.ro xs)) (e2 : L2.atI xs k = some d) : W (ixM (.ref n) (.int k)) h Q = Q d h := W_some (by simp only [ixM, itemsOf, e, e2])
theorem W_noPart : W (xNoPart σ) h QO = QO none h := W_ret
theorem W_part {f : Ev → M D} : W (xPart f σ) h QO = W (f σ) h fun x h1 => ∃ i, x = .int i ∧ QO (some i) h1 := by
  unfold xPart; simp only [W_eq0, V_bnd]; congr; funext x h1; apply propext
  constructor
  · rintro ⟨a, h', e, q⟩
    cases x <;> dsimp only at e <;> cases e
    exact ⟨_, rfl, q⟩
  · rintro ⟨i, rfl, q⟩
    exact ⟨_, _, rfl, q⟩
theorem W_sl {f : Ev → M D} {l u : Ev → M (Option Int)} : W (xSl f l u σ) h Q = W (f σ) h fun x h1 => W (l σ) h1 fun lo h2 => W (u σ) h2 fun hi h3 => W (slM x lo hi) h3 Q := by
  unfold xSl; simp only [W_eq0, V_bnd]
theorem W_slL {n : Nat} {xs : List D} {lo hi : Option Int} (e : h[n]? = some (.lst xs)) : W (slM (.ref n) lo hi) h Q = Q (.ref h.length) (h ++ [.lst (cutD xs lo hi)]) := W_some (by simp only [slM, listOf, e])
theorem W_addL {n m : Nat} {xs ys : List D} (e : h[n]? = some (.lst xs)) (e2 : h[m]? = some (.lst ys)) (hl : xs.length + ys.length ≤ LIM) : W (addM (.ref n) (.ref m)) h Q = Q (.ref h.length) (h ++ [.lst (xs ++ ys)]) := W_some (by simp only [addM, e, e2, hl, if_true])
theorem W_lm {op : D → D → M D} {fo fe : Ev → M D} : W (xLM op fo fe σ) h Q = W (fo σ) h fun x h1 => W (isLst x) h1 fun _ h2 => W (fe σ) h2 fun y h3 => W (op x y) h3 Q := by
  unfold xLM; simp only [W_eq0, V_bnd]
theorem W_lm0 {op : D → M D} {fo : Ev → M D} : W (xLM0 op fo σ) h Q = W (fo σ) h fun x h1 => W (isLst x) h1 fun _ h2 => W (op x) h2 Q := by
  unfold xLM0; simp only [W_eq0, V_bnd]
theorem W_isLst {n : Nat} {xs : List D} (e : h[n]? = some (.lst xs)) : W (isLst (.ref n)) h QU = QU () h := W_some (by simp only [isLst, e])
theorem W_app {n : Nat} {xs : List D} {y : D} (e : h[n]? = some (.lst xs)) (hl : xs.length < LIM) : W (appM (.ref n) y) h Q = Q .non (h.set n (.lst (xs ++ [y]))) := W_some (by simp only [appM, e, hl, if_true])
theorem W_rev {n : Nat} {xs : List D} (e : h[n]? = some (.lst xs)) : W (revM (.ref n)) h Q = Q .non (h.set n (.lst xs.reverse)) := W_some (by simp only [revM, e])
theorem W_revSl {n : Nat} {xs : List D} (e : h[n]? = some (.lst xs)) : W (revSlM (.ref n)) h Q = Q (.ref h.length) (h ++ [.lst xs.reverse]) := W_some (by simp only [revSlM, listOf, e])
theorem W_listL {n : Nat} {xs : List D} (e : h[n]? = some (.lst xs)) : W (listM [.ref n]) h Q = Q (.ref h.length) (h ++ [.lst xs]) := W_some (by simp only [listM, itemsOf, e])
theorem W_listT {xs : List D} : W (listM [.tup xs]) h Q = Q (.ref h.length) (h ++ [.lst xs]) := W_some rfl
/-! loops -/
theorem W_iter {f : Ev → M D} : W (xIter f σ) h QR = W (f σ) h fun x h1 => W (srcSeq x) h1 QR := by
  unfold xIter; simp only [W_eq0, V_bnd]
theorem W_range1 {fs : Ev → M (List D)} : W (xRange1 fs σ) h QR = W (fs σ) h fun xs h1 => ∃ j, xs = [.int j] ∧ (-4611686018427387904 ≤ j ∧ j < 4611686018427387904) ∧ QR (srcRange 0 j.toNat) h1 := by
  unfold xRange1; simp only [W_eq0, V_bnd]; congr; funext xs h1; unfold W0; apply propext
  constructor
  · rintro ⟨a, h', e, q⟩
    split at e
    · rename_i j
      split at e
      · rename_i c; cases e; exact ⟨j, rfl, c, q⟩
      · cases e
    · cases e
  · rintro ⟨j, rfl, c, q⟩
    exact ⟨_, _, by simp only [c, and_self, if_true], q⟩
theorem W_range2 {fs : Ev → M (List D)} : W (xRange2 fs σ) h QR = W (fs σ) h fun xs h1 => ∃ i j, xs = [.int i, .int j] ∧ ((-4611686018427387904 ≤ i ∧ i < 4611686018427387904) ∧ -4611686018427387904 ≤ j ∧ j < 4611686018427387904) ∧ QR (srcRange i (j - i).toNat) h1 := by
  unfold xRange2; simp only [W_eq0, V_bnd]; congr; funext xs h1; unfold W0; apply propext
  constructor
  · rintro ⟨a, h', e, q⟩
    split at e
    · rename_i i j
      split at e
      · rename_i c; cases e; exact ⟨i, j, rfl, c, q⟩
      · cases e
    · cases e
  · rintro ⟨i, j, rfl, c, q⟩
    exact ⟨_, _, by simp only [c, and_self, if_true], q⟩
theorem W_forE {s : Ev → M Src} {t : D → Ev → M Ev} {g : Ev → M Fl} : W (xFor s t g σ) h QS = W (s σ) h fun src h1 => W (forL src t g (src.fuel + 1) 0 σ) h1 QS := by
  unfold xFor; simp only [W_eq0, V_bnd]
/-- one turn of a loop, on: i -/
def Turn (t : D → Ev → M Ev) (g : Ev → M Fl) (d : D) (σ : Ev) (h : Hd) (N : Ev → Hd → Prop) (QS : Fl → Hd → Prop) : Prop :=
  W (t d σ) h fun σ1 h1 => W (g σ1) h1 fun r h2 => match r with
    | .nx σ' => N σ' h2
    | .ct σ' => N σ' h2
    | .bk σ' => QS (.nx σ') h2
    | .rt d => QS (.rt d) h2
theorem w_forL {src : Src} {t : D → Ev → M Ev} {g : Ev → M Fl} {n : Nat} (I : Nat → Ev → Hd → Prop)
    (hs : ∀ i σ h, i ≤ n → I i σ h → (i = n ∧ src.item h i = some none) ∨ i < n ∧ ∃ d, src.item h i = some (some d) ∧ Turn t g d σ h (I (i + 1)) QS)
    (hd : ∀ σ h, I n σ h → QS (.nx σ) h) : ∀ (k i : Nat) (σ : Ev) (h : Hd), i ≤ n → n < i + k → I i σ h → W (forL src t g k i σ) h QS := by
  intro k
  induction k with
  | zero => intro i σ h a b; omega
  | succ k ih =>
    intro i σ h hi hk hI
    rcases hs i σ h hi hI with ⟨rfl, e⟩ | ⟨hl, d, e, T⟩
    · exact ⟨_, h, by simp only [forL, e], hd σ h hI⟩
    · have T2 : W (bnd (t d σ) g) h fun r h2 => match r with
        | .nx σ' => I (i + 1) σ' h2
        | .ct σ' => I (i + 1) σ' h2
        | .bk σ' => QS (.nx σ') h2
        | .rt d => QS (.rt d) h2 := by rw [W_bnd]; exact T
      obtain ⟨r, h2, e2, q⟩ := T2
      cases r with
      | nx σ' =>
        obtain ⟨a, h3, e3, q3⟩ := ih (i + 1) σ' h2 (by omega) (by omega) q
        exact ⟨a, h3, by simp only [forL, e, e2]; exact e3, q3⟩
      | ct σ' =>
        obtain ⟨a, h3, e3, q3⟩ := ih (i + 1) σ' h2 (by omega) (by omega) q
        exact ⟨a, h3, by simp only [forL, e, e2]; exact e3, q3⟩
      | bk σ' => exact ⟨_, h2, by simp only [forL, e, e2], q⟩
      | rt d => exact ⟨_, h2, by simp only [forL, e, e2], q⟩
/-- range(..) -/
theorem w_forR {lo : Int} {n : Nat} {t : D → Ev → M Ev} {g : Ev → M Fl} (I : Nat → Ev → Hd → Prop) (h0 : I 0 σ h)
    (hs : ∀ i σ h, i < n → I i σ h → Turn t g (.int (lo + (i : Int))) σ h (I (i + 1)) QS) (hd : ∀ σ h, I n σ h → QS (.nx σ) h) : W (forL (srcRange lo n) t g ((srcRange lo n).fuel + 1) 0 σ) h QS :=
  w_forL (n := n) I (fun i σ h hi hI => by
    by_cases c : i < n
    · exact .inr ⟨c, _, by simp only [srcRange, c, if_true], hs i σ h c hI⟩
    · exact .inl ⟨by omega, by simp only [srcRange, c, if_false]⟩) hd _ 0 σ h (Nat.zero_le _) (by show n < 0 + (n + 1); omega) h0
theorem W_srcT {xs : List D} : W (srcSeq (.tup xs)) h QR = QR ⟨fun _ i => some xs[i]?, xs.length⟩ h := W_some rfl
def srcLst (n k : Nat) : Src := ⟨fun h i => match listOf h (.ref n) with
      | some xs => some xs[i]?
      | none => none, k⟩
theorem W_srcL {n : Nat} {xs : List D} (e : h[n]? = some (.lst xs)) : W (srcSeq (.ref n)) h QR = QR (srcLst n xs.length) h := W_some (by simp only [srcSeq, listOf, e]; rfl)
/-- a list that stays -/
theorem w_forS {a : Nat} {xs : List D} {t : D → Ev → M Ev} {g : Ev → M Fl} (I : Nat → Ev → Hd → Prop) (h0 : I 0 σ h) (hl : ∀ i σ h, I i σ h → h[a]? = some (.lst xs))
    (hs : ∀ i σ h (hi : i < xs.length), I i σ h → Turn t g xs[i] σ h (I (i + 1)) QS) (hd : ∀ σ h, I xs.length σ h → QS (.nx σ) h) : W (forL (srcLst a xs.length) t g ((srcLst a xs.length).fuel + 1) 0 σ) h QS :=
  w_forL (n := xs.length) I (fun i σ h hi hI => by
    have e := hl i σ h hI
    by_cases c : i < xs.length
    · exact .inr ⟨c, xs[i], by simp only [srcLst, listOf, e, List.getElem?_eq_getElem c], hs i σ h c hI⟩
    · exact .inl ⟨by omega, by simp only [srcLst, listOf, e, List.getElem?_eq_none (Nat.le_of_not_lt c)]⟩) hd _ 0 σ h (Nat.zero_le _) (by show xs.length < 0 + (xs.length + 1); omega) h0
theorem W_revE {fs : Ev → M (List D)} : W (xRev fs σ) h QR = W (fs σ) h fun xs h1 => ∃ x, xs = [x] ∧ W (srcRev x) h1 QR := by
  unfold xRev; simp only [W_eq0, V_bnd]; congr; funext xs h1; apply propext
  constructor
  · intro w
    rcases xs with _ | ⟨x, _ | ⟨y, r⟩⟩
    · obtain ⟨_, _, e, _⟩ := w; cases e
    · exact ⟨x, rfl, w⟩
    · obtain ⟨_, _, e, _⟩ := w; cases e
  · rintro ⟨x, rfl, w⟩; exact w
def srcRv (n : Nat) (k : Nat) : Src := ⟨fun h i => if i < k then match listOf h (.ref n) with
      | some ys => match ys[k - 1 - i]? with
        | some d => some (some d)
        | none => none
      | none => none else some none, k⟩
theorem W_srcRev {n : Nat} {xs : List D} (e : h[n]? = some (.lst xs)) : W (srcRev (.ref n)) h QR = QR (srcRv n xs.length) h := W_some (by simp only [srcRev, listOf, e]; rfl)
theorem w_forRv {a : Nat} {xs : List D} {t : D → Ev → M Ev} {g : Ev → M Fl} (I : Nat → Ev → Hd → Prop) (h0 : I 0 σ h) (hl : ∀ i σ h, I i σ h → h[a]? = some (.lst xs))
    (hs : ∀ i σ h (hi : i < xs.length), I i σ h → Turn t g (xs[xs.length - 1 - i]'(by omega)) σ h (I (i + 1)) QS) (hd : ∀ σ h, I xs.length σ h → QS (.nx σ) h) : W (forL (srcRv a xs.length) t g ((srcRv a xs.length).fuel + 1) 0 σ) h QS :=
  w_forL (n := xs.length) I (fun i σ h hi hI => by
    have e := hl i σ h hI
    by_cases c : i < xs.length
    · exact .inr ⟨c, xs[xs.length - 1 - i]'(by omega), by simp only [srcRv, listOf, e, c, if_true, List.getElem?_eq_getElem (show xs.length - 1 - i < xs.length by omega)], hs i σ h c hI⟩
    · exact .inl ⟨by omega, by simp only [srcRv, c, if_false]⟩) hd _ 0 σ h (Nat.zero_le _) (by show xs.length < 0 + (xs.length + 1); omega) h0
theorem W_compE {s : Ev → M Src} {t : D → Ev → M Ev} {c : Ev → M Bool} {f : Ev → M D} {vs : List Nat} : W (xComp s t c f vs σ) h Q = W (s σ) h fun src h1 => W (compL src t c f h1.length (wipeD σ vs) (src.fuel + 1) 0) (h1 ++ [.lst []]) Q := by
  unfold xComp; simp only [W_eq0, V_bnd]; rfl
/-- one turn of a comprehension -/
def TurnC (t : D → Ev → M Ev) (c : Ev → M Bool) (f : Ev → M D) (r : Nat) (d : D) (σ : Ev) (h : Hd) (N : Hd → Prop) : Prop :=
  W (t d σ) h fun σ1 h1 => W (c σ1) h1 fun b h2 => if b = true then W (f σ1) h2 fun y h4 => ∃ acc, h4[r]? = some (.lst acc) ∧ acc.length < LIM ∧ N (h4.set r (.lst (acc ++ [y]))) else N h2
theorem w_compL {src : Src} {t : D → Ev → M Ev} {c : Ev → M Bool} {f : Ev → M D} {r n : Nat} (I : Nat → Hd → Prop)
    (hs : ∀ i h, i ≤ n → I i h → (i = n ∧ src.item h i = some none) ∨ i < n ∧ ∃ d, src.item h i = some (some d) ∧ TurnC t c f r d σ h (I (i + 1)))
    (hd : ∀ h, I n h → Q (.ref r) h) : ∀ (k i : Nat) (h : Hd), i ≤ n → n < i + k → I i h → W (compL src t c f r σ k i) h Q := by
  intro k
  induction k with
  | zero => intro i h a b; omega
  | succ k ih =>
    intro i h hi hk hI
    rcases hs i h hi hI with ⟨rfl, e⟩ | ⟨hl, d, e, T⟩
    · exact ⟨_, h, by simp only [compL, e], hd h hI⟩
    · have T2 : W (bnd (t d σ) (fun σ2 => bnd (c σ2) fun b => if b = true then bnd (f σ2) (fun y h4 => match h4[r]? with
        | some (.lst acc) => if acc.length < LIM then some ((), h4.set r (.lst (acc ++ [y]))) else none
        | _ => none) else ret ())) h fun _ h' => I (i + 1) h' := by
        rw [W_bnd]
        refine W.mono T fun σ1 h1 w1 => ?_
        rw [W_bnd]
        refine W.mono w1 fun b h2 w2 => ?_
        cases b with
        | false => exact ⟨_, _, rfl, w2⟩
        | true =>
          simp only [if_true] at w2
          rw [if_pos rfl, W_bnd]
          refine W.mono w2 fun y h4 w4 => ?_
          obtain ⟨acc, ea, hl, q⟩ := w4
          exact ⟨(), _, by simp only [ea, hl, if_true], q⟩
      obtain ⟨u, h2, e2, q⟩ := T2
      obtain ⟨a, h3, e3, q3⟩ := ih (i + 1) h2 (by omega) (by omega) q
      exact ⟨a, h3, by
        simp only [compL, e]
        exact Eq.trans (congrArg (fun o : Option (Unit × Hd) => match o with
          | none => none
          | some (_, h') => compL src t c f r σ k (i + 1) h') e2) e3, q3⟩
theorem w_compR {lo : Int} {n r : Nat} {t : D → Ev → M Ev} {c : Ev → M Bool} {f : Ev → M D} (I : Nat → Hd → Prop) (h0 : I 0 h)
    (hs : ∀ i h, i < n → I i h → TurnC t c f r (.int (lo + (i : Int))) σ h (I (i + 1))) (hd : ∀ h, I n h → Q (.ref r) h) : W (compL (srcRange lo n) t c f r σ ((srcRange lo n).fuel + 1) 0) h Q :=
  w_compL (n := n) I (fun i h hi hI => by
    by_cases c : i < n
    · exact .inr ⟨c, _, by simp only [srcRange, c, if_true], hs i h c hI⟩
    · exact .inl ⟨by omega, by simp only [srcRange, c, if_false]⟩) hd _ 0 h (Nat.zero_le _) (by show n < 0 + (n + 1); omega) h0
theorem w_compS {a r : Nat} {xs : List D} {t : D → Ev → M Ev} {c : Ev → M Bool} {f : Ev → M D} (I : Nat → Hd → Prop) (h0 : I 0 h) (hl : ∀ i h, I i h → h[a]? = some (.lst xs))
    (hs : ∀ i h (hi : i < xs.length), I i h → TurnC t c f r xs[i] σ h (I (i + 1))) (hd : ∀ h, I xs.length h → Q (.ref r) h) : W (compL (srcLst a xs.length) t c f r σ ((srcLst a xs.length).fuel + 1) 0) h Q :=
  w_compL (n := xs.length) I (fun i h hi hI => by
    have e := hl i h hI
    by_cases c : i < xs.length
    · exact .inr ⟨c, xs[i], by simp only [srcLst, listOf, e, List.getElem?_eq_getElem c], hs i h c hI⟩
    · exact .inl ⟨by omega, by simp only [srcLst, listOf, e, List.getElem?_eq_none (Nat.le_of_not_lt c)]⟩) hd _ 0 h (Nat.zero_le _) (by show xs.length < 0 + (xs.length + 1); omega) h0
theorem W_yes : W (xYes σ) h QB = QB true h := W_ret
theorem rd_self {i : Nat} {v : Option D} (hl : i < σ.length) : (σ.set i v)[i]? = some v := by simp [hl]
theorem rd_ne {i j : Nat} {v : Option D} (hij : i ≠ j) : (σ.set i v)[j]? = σ[j]? := List.getElem?_set_ne hij
/-! ### the heap grows; the deck at 1 stays a deck -/
def Dk (h : Hd) : Prop := ∃ ns : List Int, h[1]? = some (.lst (ns.map D.int))
structure Fr (S : List Nat) (h h' : Hd) : Prop where
  le : h.length ≤ h'.length
  same : ∀ i, i < h.length → i ∉ S → i ≠ 1 → h'[i]? = h[i]?
  dk : Dk h → Dk h'
theorem Fr.refl {S : List Nat} {h : Hd} : Fr S h h := ⟨Nat.le_refl _, fun _ _ _ _ => rfl, id⟩
theorem Fr.trans {S : List Nat} {h h1 h2 : Hd} (a : Fr S h h1) (b : Fr S h1 h2) : Fr S h h2 := ⟨Nat.le_trans a.le b.le, fun i hi hs h1 => (b.same i (Nat.lt_of_lt_of_le hi a.le) hs h1).trans (a.same i hi hs h1), b.dk ∘ a.dk⟩
theorem Fr.keep {S : List Nat} {h h1 : Hd} (a : Fr S h h1) {i : Nat} {c : Cell} (e : h[i]? = some c) (hs : i ∉ S := by simp) (hi1 : i ≠ 1 := by omega) : h1[i]? = some c := (a.same i (List.getElem?_eq_some_iff.mp e).1 hs hi1).trans e
theorem Dk.lt {h : Hd} (d : Dk h) : 1 < h.length := by
  obtain ⟨ns, e⟩ := d
  exact (List.getElem?_eq_some_iff.mp e).1
theorem Fr.push {S : List Nat} {h : Hd} {c : Cell} : Fr S h (h ++ [c]) := ⟨by simp, fun i hi _ _ => List.getElem?_append_left hi, fun ⟨ns, e⟩ => ⟨ns, by rw [List.getElem?_append_left (List.getElem?_eq_some_iff.mp e).1]; exact e⟩⟩
theorem Fr.write {S : List Nat} {h : Hd} {n : Nat} {c : Cell} (hn : n ∈ S) (h1 : n ≠ 1) : Fr S h (h.set n c) := ⟨by simp, fun i hi hs _ => List.getElem?_set_ne (fun z => by subst z; exact hs hn), fun ⟨ns, e⟩ => ⟨ns, by rw [List.getElem?_set_ne h1]; exact e⟩⟩
theorem Fr.mono {S S' : List Nat} {h h' : Hd} (a : Fr S h h') (k : ∀ i, i < h.length → i ∈ S → i ∈ S') : Fr S' h h' := ⟨a.le, fun i hi hs h1 => a.same i hi (fun z => hs (k i hi z)) h1, a.dk⟩
/-- drop what is fresh -/
theorem Fr.fresh {S : List Nat} {h h' : Hd} {n : Nat} (a : Fr (n :: S) h h') (hn : h.length ≤ n) : Fr S h h' := a.mono fun i hi z => by
  rcases List.mem_cons.mp z with rfl | z
  · omega
  · exact z
theorem get_push {h : Hd} {c : Cell} : (h ++ [c])[h.length]? = some c := by simp
theorem get_pushL {h : Hd} {c c' : Cell} {n : Nat} (e : h[n]? = some c) : (h ++ [c'])[n]? = some c := by rw [List.getElem?_append_left (List.getElem?_eq_some_iff.mp e).1]; exact e
theorem get_set {h : Hd} {c c' : Cell} {n : Nat} (e : h[n]? = some c) : (h.set n c')[n]? = some c' := by simp [(List.getElem?_eq_some_iff.mp e).1]
theorem get_lt {h : Hd} {c : Cell} {n : Nat} (e : h[n]? = some c) : n < h.length := (List.getElem?_eq_some_iff.mp e).1
end Dt

set_option Elab.async false
set_option linter.all false
set_option autoImplicit false
set_option maxRecDepth 100000
/-! DtR: values that stand for plain trees. -/
namespace Dt
open PySem
inductive All2 {α β : Type} (r : α → β → Prop) : List α → List β → Prop where
  | nil : All2 r [] []
  | cons {a : α} {b : β} {as : List α} {bs : List β} : r a b → All2 r as bs → All2 r (a :: as) (b :: bs)
theorem All2.len {α β : Type} {r : α → β → Prop} {as : List α} {bs : List β} (h : All2 r as bs) : as.length = bs.length := by
  induction h with
  | nil => rfl
  | cons _ _ ih => simp [ih]
theorem All2.imp {α β : Type} {r s : α → β → Prop} (k : ∀ a b, r a b → s a b) {as : List α} {bs : List β} (h : All2 r as bs) : All2 s as bs := by
  induction h with
  | nil => exact .nil
  | cons a _ ih => exact .cons (k _ _ a) ih
theorem All2.app {α β : Type} {r : α → β → Prop} {as as' : List α} {bs bs' : List β} (h : All2 r as bs) (h' : All2 r as' bs') : All2 r (as ++ as') (bs ++ bs') := by
  induction h with
  | nil => exact h'
  | cons a _ ih => exact .cons a ih
theorem All2.get {α β : Type} {r : α → β → Prop} {as : List α} {bs : List β} (h : All2 r as bs) (i : Nat) (ha : i < as.length) (hb : i < bs.length) : r as[i] bs[i] := by
  induction h generalizing i with
  | nil => cases ha
  | cons a _ ih => cases i with
    | zero => exact a
    | succ i => exact ih i (by simpa using ha) (by simpa using hb)
theorem All2.map {α β γ : Type} {r : α → β → Prop} {f : γ → α} {g : γ → β} (k : ∀ c, r (f c) (g c)) (cs : List γ) : All2 r (cs.map f) (cs.map g) := by
  induction cs with
  | nil => exact .nil
  | cons c cs ih => exact .cons (k c) ih
theorem strOk_of (s : String) : PyData.strOk (Str.ofString s) = true := by
  rw [Str.ofString_eq_toList]
  unfold PyData.strOk
  simp only [Array.all_eq_true, decide_eq_true_eq]
  intro i hi
  simp only [List.getElem_toArray, List.getElem_map]
  exact Nat.lt_of_lt_of_le (Nat.lt_of_le_of_lt (Nat.le_refl _) (by
    have := (s.toList[i]'(by simpa using hi)).valid
    rcases this with h | h
    · exact Nat.lt_trans h (by decide)
    · exact h.2)) (Nat.le_refl _)
def Rp (lo w : Nat) (h : Hd) : Nat → D → PyData → Prop
  | 0, _, _ => False
  | d + 1, x, p => match p with
    | .none => x = .non
    | .bool b => x = .bl b
    | .int i => x = .int i
    | .str s => ∃ t, x = .str t ∧ s = Str.ofString t
    | .tuple ps => ∃ xs, x = .tup xs ∧ ps.length ≤ w ∧ All2 (Rp lo w h d) xs ps
    | .list ps => ∃ n xs, x = .ref n ∧ (lo ≤ n ∧ n ≠ 1) ∧ h[n]? = some (.lst xs) ∧ ps.length ≤ w ∧ All2 (Rp lo w h d) xs ps
    | .dict _ => False
theorem Rp.frS {lo w : Nat} {h h' : Hd} {S : List Nat} (F : Fr S h h') (hS : ∀ s ∈ S, s < lo) : ∀ {d : Nat} {x : D} {p : PyData}, Rp lo w h d x p → Rp lo w h' d x p := by
  intro d
  induction d with
  | zero => intro x p r; exact r
  | succ d ih =>
    intro x p r
    cases p with
    | none => exact r
    | bool b => exact r
    | int i => exact r
    | str s => exact r
    | tuple ps => obtain ⟨xs, e, hl, a⟩ := r; exact ⟨xs, e, hl, a.imp fun _ _ z => ih z⟩
    | list ps => obtain ⟨n, xs, e, h1, e2, hl, a⟩ := r; exact ⟨n, xs, e, h1, F.keep e2 (fun z => by have := hS _ z; omega) h1.2, hl, a.imp fun _ _ z => ih z⟩
    | dict _ => exact r
theorem Rp.fr {lo w : Nat} {h h' : Hd} (F : Fr [] h h') {d : Nat} {x : D} {p : PyData} (r : Rp lo w h d x p) : Rp lo w h' d x p := r.frS F fun _ z => by cases z
theorem Rp.up {lo lo' w w' d d' : Nat} {h : Hd} (hlo : lo' ≤ lo) (hw : w ≤ w') (hd : d ≤ d') {x : D} {p : PyData} (r : Rp lo w h d x p) : Rp lo' w' h d' x p := by
  induction d generalizing d' x p with
  | zero => exact r.elim
  | succ d ih =>
    obtain ⟨d', rfl⟩ : ∃ e, d' = e + 1 := ⟨d' - 1, by omega⟩
    cases p with
    | none => exact r
    | bool b => exact r
    | int i => exact r
    | str s => exact r
    | tuple ps => obtain ⟨xs, e, hl, a⟩ := r; exact ⟨xs, e, Nat.le_trans hl hw, a.imp fun _ _ z => ih (by omega) z⟩
    | list ps => obtain ⟨n, xs, e, h1, e2, hl, a⟩ := r; exact ⟨n, xs, e, ⟨by omega, h1.2⟩, e2, Nat.le_trans hl hw, a.imp fun _ _ z => ih (by omega) z⟩
    | dict _ => exact r
theorem toPys_of {h : Hd} {n : Nat} {r : D → PyData → Prop} (k : ∀ x p m, r x p → n ≤ m → toPy h m x = some p) {xs : List D} {ps : List PyData} (a : All2 r xs ps) : ∀ m, n + ps.length + 1 ≤ m → toPys h m xs = some ps := by
  induction a with
  | nil => intro m hm; obtain ⟨m, rfl⟩ : ∃ e, m = e + 1 := ⟨m - 1, by omega⟩; rfl
  | cons c _ ih =>
    intro m hm
    obtain ⟨m, rfl⟩ : ∃ e, m = e + 1 := ⟨m - 1, by omega⟩
    simp only [List.length_cons] at hm
    simp only [toPys, k _ _ m c (by omega), ih m (by omega)]
theorem Rp.toPy {lo w : Nat} {h : Hd} : ∀ {d : Nat} {x : D} {p : PyData} (m : Nat), Rp lo w h d x p → (w + 2) * d ≤ m → toPy h m x = some p := by
  intro d
  induction d with
  | zero => intro x p m r; exact r.elim
  | succ d ih =>
    intro x p m r hm
    rw [Nat.mul_succ] at hm
    obtain ⟨m, rfl⟩ : ∃ e, m = e + 1 := ⟨m - 1, by omega⟩
    cases p with
    | none => obtain rfl := r; rfl
    | bool b => obtain rfl := r; rfl
    | int i => obtain rfl := r; rfl
    | str s => obtain ⟨t, rfl, rfl⟩ := r; rfl
    | tuple ps => obtain ⟨xs, rfl, hl, a⟩ := r; simp only [Dt.toPy, toPys_of (n := (w + 2) * d) (fun x p m r hm => ih m r hm) a m (by omega), Option.map_some]
    | list ps => obtain ⟨n, xs, rfl, h1, e2, hl, a⟩ := r; simp only [Dt.toPy, e2, toPys_of (n := (w + 2) * d) (fun x p m r hm => ih m r hm) a m (by omega), Option.map_some]
    | dict _ => exact r.elim
theorem lay_all {r : D → PyData → Prop} {d : Nat} (k : ∀ x p, r x p → p.canLay0 = true ∧ p.depth ≤ d) {xs : List D} {ps : List PyData} (a : All2 r xs ps) : PyData.canLayAll0 ps = true ∧ PyData.depthAll ps ≤ d := by
  induction a with
  | nil => exact ⟨rfl, Nat.zero_le _⟩
  | cons c _ ih => exact ⟨by rw [PyData.canLayAll0, (k _ _ c).1, ih.1]; rfl, by rw [PyData.depthAll]; exact Nat.max_le.mpr ⟨(k _ _ c).2, ih.2⟩⟩
theorem Rp.lay {lo w : Nat} {h : Hd} : ∀ {d : Nat} {x : D} {p : PyData}, Rp lo w h d x p → p.canLay0 = true ∧ p.depth ≤ d := by
  intro d
  induction d with
  | zero => intro x p r; exact r.elim
  | succ d ih =>
    intro x p r
    cases p with
    | none => exact ⟨rfl, by simp [PyData.depth]⟩
    | bool b => exact ⟨rfl, by simp [PyData.depth]⟩
    | int i => exact ⟨rfl, by simp [PyData.depth]⟩
    | str s => obtain ⟨t, rfl, rfl⟩ := r; exact ⟨by rw [PyData.canLay0]; exact strOk_of t, by simp [PyData.depth]⟩
    | tuple ps => obtain ⟨xs, rfl, hl, a⟩ := r; have := lay_all (fun x p r => ih r) a; exact ⟨by rw [PyData.canLay0]; exact this.1, by rw [PyData.depth]; omega⟩
    | list ps => obtain ⟨n, xs, rfl, h1, e2, hl, a⟩ := r; have := lay_all (fun x p r => ih r) a; exact ⟨by rw [PyData.canLay0]; exact this.1, by rw [PyData.depth]; omega⟩
    | dict _ => exact r.elim
theorem Rp.shaped {lo w : Nat} {h : Hd} {d : Nat} {x : D} {p : PyData} (r : Rp lo w h d x p) (hd : d ≤ 64) : SeqAt.shaped p = true := by
  unfold SeqAt.shaped
  rw [r.lay.1]
  simp only [Bool.true_and, decide_eq_true_eq]
  exact Nat.le_trans r.lay.2 hd
/-- what _law_plain tells -/
def pl : PyData → PyData
  | .list ps => .list (.bool true :: pls ps)
  | .tuple ps => .list (.bool false :: pls ps)
  | .none => .str (Str.ofString "None")
  | .bool b => .str (Str.ofString (if b then "True" else "False"))
  | .int i => .list [.bool false, .int i]
  | .str s => .list [.bool true, .str s]
  | .dict _ => .str (Str.ofString "another")
where pls : List PyData → List PyData
  | [] => []
  | p :: ps => pl p :: pls ps
theorem pls_len : ∀ ps : List PyData, (pl.pls ps).length = ps.length
  | [] => rfl
  | _ :: ps => by simp only [pl.pls, List.length_cons, pls_len ps]
theorem pls_take : ∀ (ps : List PyData) (i : Nat) (hi : i < ps.length), pl.pls (ps.take (i + 1)) = pl.pls (ps.take i) ++ [pl ps[i]]
  | [], i, hi => absurd hi (Nat.not_lt_zero _)
  | p :: ps, 0, hi => by simp [pl.pls]
  | p :: ps, i + 1, hi => by
    simp only [List.take_succ_cons, pl.pls, List.cons_append, List.getElem_cons_succ]
    rw [pls_take ps i (by simpa using hi)]
theorem pls_app : ∀ ps qs : List PyData, pl.pls (ps ++ qs) = pl.pls ps ++ pl.pls qs
  | [], _ => rfl
  | _ :: ps, qs => by simp only [pl.pls, List.cons_append, pls_app ps qs]
variable {α β : Type} {h : Hd} {σ : Ev} {Q : D → Hd → Prop} {QB : Bool → Hd → Prop} {QS : Fl → Hd → Prop}
theorem W_isi {ns : List String} {x : D} {a : String} (e : tyD h x = some a) : W (isiM ns x) h Q = Q (.bl (ns.any fun b => isaT a b)) h := W_some (by simp only [isiM, e])
def srcTp (xs : List D) : Src := ⟨fun _ i => some xs[i]?, xs.length⟩
theorem W_srcTp {xs : List D} {QR : Src → Hd → Prop} : W (srcSeq (.tup xs)) h QR = QR (srcTp xs) h := W_some rfl
theorem w_compT {r : Nat} {xs : List D} {t : D → Ev → M Ev} {c : Ev → M Bool} {f : Ev → M D} (I : Nat → Hd → Prop) (h0 : I 0 h)
    (hs : ∀ i h (hi : i < xs.length), I i h → TurnC t c f r xs[i] σ h (I (i + 1))) (hd : ∀ h, I xs.length h → Q (.ref r) h) : W (compL (srcTp xs) t c f r σ ((srcTp xs).fuel + 1) 0) h Q :=
  w_compL (n := xs.length) I (fun i h hi hI => by
    by_cases c : i < xs.length
    · exact .inr ⟨c, xs[i], by simp only [srcTp, List.getElem?_eq_getElem c], hs i h c hI⟩
    · exact .inl ⟨by omega, by simp only [srcTp, List.getElem?_eq_none (Nat.le_of_not_lt c)]⟩) hd _ 0 h (Nat.zero_le _) (by show xs.length < 0 + (xs.length + 1); omega) h0
theorem w_forT {xs : List D} {t : D → Ev → M Ev} {g : Ev → M Fl} (I : Nat → Ev → Hd → Prop) (h0 : I 0 σ h)
    (hs : ∀ i σ h (hi : i < xs.length), I i σ h → Turn t g xs[i] σ h (I (i + 1)) QS) (hd : ∀ σ h, I xs.length σ h → QS (.nx σ) h) : W (forL (srcTp xs) t g ((srcTp xs).fuel + 1) 0 σ) h QS :=
  w_forL (n := xs.length) I (fun i σ h hi hI => by
    by_cases c : i < xs.length
    · exact .inr ⟨c, xs[i], by simp only [srcTp, List.getElem?_eq_getElem c], hs i σ h c hI⟩
    · exact .inl ⟨by omega, by simp only [srcTp, List.getElem?_eq_none (Nat.le_of_not_lt c)]⟩) hd _ 0 σ h (Nat.zero_le _) (by show xs.length < 0 + (xs.length + 1); omega) h0
/-- a comprehension whose values are as told, one by one; nothing else is touched -/
theorem w_compN {lo : Int} {n : Nat} {t : D → Ev → M Ev} {f : Ev → M D} {r : Nat} {h0 : Hd} (P : Nat → Hd → D → Prop) (hr : r = h0.length) (hn : n ≤ 100000) (h1r : 1 < h0.length)
    (mono : ∀ i h h' x, P i h x → Fr [r] h h' → P i h' x)
    (hs : ∀ i h, i < n → Fr [] h0 h → W (t (.int (lo + (i : Int))) σ) h fun σ1 h1 => W (f σ1) h1 fun y h2 => Fr [] h h2 ∧ P i h2 y)
    (hd : ∀ h xs, Fr [] h0 h → h[r]? = some (.lst xs) → xs.length = n → (∀ i (hi : i < xs.length), P i h xs[i]) → Q (.ref r) h) :
    W (compL (srcRange lo n) t xYes f r σ ((srcRange lo n).fuel + 1) 0) (h0 ++ [.lst []]) Q := by
  refine w_compR (fun i h => ∃ xs, Fr [] h0 h ∧ h[r]? = some (.lst xs) ∧ xs.length = i ∧ ∀ j (hj : j < xs.length), P j h xs[j]) ⟨[], .push, by subst hr; exact get_push, rfl, fun j hj => absurd hj (Nat.not_lt_zero _)⟩ ?_ ?_
  · rintro i h hi ⟨xs, F, e, rfl, hp⟩
    refine W.mono (hs _ h hi F) fun σ1 h1 w1 => ?_
    rw [W_yes]
    simp only [if_true]
    refine W.mono w1 fun y h2 ⟨F2, p⟩ => ?_
    have e2 := F2.keep e (by simp) (by omega)
    have FF : Fr [r] h2 (h2.set r (.lst (xs ++ [y]))) := .write (by simp) (by omega)
    have F4 : Fr [] h0 (h2.set r (.lst (xs ++ [y]))) := Fr.fresh (n := r) ((((F.trans F2).mono fun _ _ z => by cases z).trans FF)) (by omega)
    refine ⟨xs, e2, by show xs.length < 1000000; omega, xs ++ [y], F4, get_set e2, by simp, fun j hj => ?_⟩
    rcases Nat.lt_or_ge j xs.length with c | c
    · rw [List.getElem_append_left c]
      exact mono _ _ _ _ (mono _ _ _ _ (hp j c) (F2.mono fun _ _ z => by cases z)) FF
    · have : j = xs.length := by simp at hj; omega
      subst this
      simp only [List.getElem_concat_length]
      exact mono _ _ _ _ p FF
  · rintro h ⟨xs, F, e, hl, hp⟩
    exact hd h xs F e hl hp
theorem lift_list {γ : Type} {f : γ → D} {R : γ → Prop} : ∀ {xs : List D}, (∀ i (hi : i < xs.length), ∃ c, R c ∧ xs[i] = f c) → ∃ cs : List γ, xs = cs.map f ∧ ∀ c ∈ cs, R c
  | [], _ => ⟨[], rfl, fun c z => by cases z⟩
  | x :: xs, k => by
    obtain ⟨c, rc, e⟩ := k 0 (by simp)
    obtain ⟨cs, e2, h2⟩ := lift_list (xs := xs) fun i hi => k (i + 1) (Nat.succ_lt_succ hi)
    refine ⟨c :: cs, by rw [List.map_cons, ← e2, ← e]; rfl, fun d hd => ?_⟩
    rcases List.mem_cons.mp hd with rfl | hd
    · exact rc
    · exact h2 d hd
theorem W_lenM {γ : Type} {n : Nat} {xs : List γ} {f : γ → D} (e : h[n]? = some (.lst (xs.map f))) : W (lenM [.ref n]) h Q = Q (.int (xs.length : Nat)) h := by rw [W_lenL e, List.length_map]
theorem W_srcM {γ : Type} {n : Nat} {xs : List γ} {f : γ → D} {QR : Src → Hd → Prop} (e : h[n]? = some (.lst (xs.map f))) : W (srcSeq (.ref n)) h QR = QR (srcLst n xs.length) h := by rw [W_srcL e, List.length_map]
theorem W_andB {b : Bool} {m m' : M α} {Q : α → Hd → Prop} (e : b = true) (w : W m h Q) : if b = true then W m h Q else W m' h Q := by rw [if_pos e]; exact w
end Dt

set_option Elab.async false
set_option linter.all false
set_option autoImplicit false
set_option maxRecDepth 100000
set_option maxHeartbeats 4000000
namespace Lk04
open PySem PySem.Spec PyProof.Rows L2 Dt
def top (i : Nat) : Stmt := PySem.Challenge.pw_turnpike_k04_whole_tolls_one_behind_anot.main.body.getD i (.Pass ⟨0, 0, 0, 0⟩)
/-! ### what the defs run -/
def L__law_deck_0 : Ev → M Fl := xSeq (xAsg (xOp modM (xB intM (xCons (xOp addM (xOp addM (xOp mulM (xV 4) (xC (.int 69621))) (xV 8)) (xC (.int 1))) (xNil))) (xC (.int 2147483629))) (gSet 4)) (xSeq (xDrop (xLM appM (xV 3) (xOp modM (xB intM (xCons (xOp ixM (xLst (xCons (xOp fdivM (xV 4) (xC (.int 7))) (xCons (xV 7) (xNil)))) (xB intM (xCons (xOp gtM (xV 7) (xC (.int 0))) (xNil)))) (xNil))) (xC (.int 1000003))))) (xAsg (xOp fdivM (xV 7) (xC (.int 1000003))) (gSet 7)))
def L__law_deck_1 : Ev → M Fl := xSeq (xAsg (xIf (xCmpT ltM (xV 5) (xB lenM (xCons (xV 0) (xNil)))) (xB intM (xCons (xOp ixM (xV 0) (xV 5)) (xNil))) (xC (.int 0))) (gSet 6)) (xSeq (xAsg (xOp mulM (xB absM (xCons (xV 6) (xNil))) (xB intM (xCons (xOp geM (xB absM (xCons (xV 6) (xNil))) (xOp powM (xC (.int 10)) (xC (.int 18)))) (xNil)))) (gSet 7)) (xSeq (xAsg (xOp modM (xB intM (xCons (xOp addM (xOp addM (xOp addM (xOp mulM (xV 4) (xC (.int 48271))) (xOp mulM (xC (.int 3)) (xOp modM (xB intM (xCons (xB absM (xCons (xV 6) (xNil))) (xNil))) (xC (.int 2147483587))))) (xB intM (xCons (xOp ltM (xV 6) (xC (.int 0))) (xNil)))) (xV 5)) (xNil))) (xC (.int 2147483647))) (gSet 4)) (xFor (xRange1 (xCons (xV 2) (xNil))) (gSet 8) (L__law_deck_0))))
def B__law_deck : Ev → M Fl := xSeq (xAsg (xLst (xNil)) (gSet 3)) (xSeq (xAsg (xOp addM (xC (.int 29)) (xB lenM (xCons (xV 0) (xNil)))) (gSet 4)) (xSeq (xFor (xRange1 (xCons (xV 1) (xNil))) (gSet 5) (L__law_deck_1)) (xSeq (xDrop (xLM0 revM (xV 3))) (xRet (xV 3)))))
def F__law_deck : List D → M D := runD 3 9 B__law_deck
def F__law_plain : Nat → List D → M D
  | 0 => fun _ _ => none
  | n + 1 => runD 1 2 (xSeq (xIfS (xTru (xUn (isiM ["tuple", "list"]) (xV 0))) (xRet (xOp addM (xLst (xCons (xUn (isiM ["list"]) (xV 0)) (xNil))) (xComp (xIter (xV 0)) (gSet 1) (xYes) (xCall (F__law_plain n) [] (xCons (xV 1) (xNil))) [1]))) (xPass)) (xSeq (xIfS (xOrT (xCmpT isM (xV 0) (xC .non)) (xTru (xUn (isiM ["bool"]) (xV 0)))) (xRet (xOp ixM (xLst (xCons (xC (.str "None")) (xCons (xC (.str "False")) (xCons (xC (.str "True")) (xNil))))) (xOp addM (xB intM (xCons (xOp isntM (xV 0) (xC .non)) (xNil))) (xB intM (xCons (xOp isM (xV 0) (xC (.bl true))) (xNil)))))) (xPass)) (xRet (xIf (xTru (xUn (isiM ["int", "str"]) (xV 0))) (xLst (xCons (xUn (isiM ["str"]) (xV 0)) (xCons (xV 0) (xNil)))) (xC (.str "another"))))))
def B__law_same : Ev → M Fl := xRet (xOp eqM (xCall (F__law_plain 12) [] (xCons (xV 0) (xNil))) (xCall (F__law_plain 12) [] (xCons (xV 1) (xNil))))
def F__law_same : List D → M D := runD 2 2 B__law_same
def B__law_take : Ev → M Fl := xRet (xIf (xCmpT gtM (xB lenM (xCons (xV 0) (xNil))) (xC (.int 0))) (xOp modM (xB intM (xCons (xLM0 popM (xV 0)) (xNil))) (xV 1)) (xC (.int 0)))
def F__law_take : List D → M D := runD 2 2 B__law_take
def B_must_come_in : Ev → M Fl := xRet (xOp addM (xOp addM (xV 1) (xOp ixM (xV 0) (xC (.int 0)))) (xOp fdivM (xOp addM (xOp mulM (xV 1) (xOp ixM (xV 0) (xC (.int 1)))) (xC (.int 999))) (xC (.int 1000))))
def F_must_come_in : List D → M D := runD 2 2 B_must_come_in
def L_legs_0 : Ev → M Fl := xSeq (xAsg (xCall (F_must_come_in) [] (xCons (xV 4) (xCons (xV 0) (xNil)))) (gSet 0)) (xSeq (xAsg (xOp addM (xV 1) (xOp ixM (xV 4) (xC (.int 2)))) (gSet 1)) (xSeq (xIfS (xCmpT gtM (xV 0) ((xC (.int 1000000000000000)))) ((fun _ => bad)) (xPass)) (xDrop (xLM appM (xV 3) (xTup (xCons (xV 0) (xCons (xV 1) (xNil))))))))
def B_legs : Ev → M Fl := xSeq (xIfS (xCmpT gtM (xB lenM (xCons (xV 2) (xNil))) ((xC (.int 20)))) ((fun _ => bad)) (xPass)) (xSeq (xIfS (xCmpT gtM (xV 0) ((xC (.int 1000000000000000)))) ((fun _ => bad)) (xPass)) (xSeq (xAsg (xLst (xCons (xTup (xCons (xV 0) (xCons (xV 1) (xNil)))) (xNil))) (gSet 3)) (xSeq (xFor (xRev (xCons (xV 2) (xNil))) (gSet 4) (L_legs_0)) (xRet (xUn revSlM (xV 3))))))
def F_legs : List D → M D := runD 3 5 B_legs
def B_may_give : Ev → M Fl := xSeq (xIfS (xOrT (xCmpT neM (xOp ixM (xV 2) (xC (.int 0))) (xOp ixM (xV 3) (xC (.int 0)))) (xCmpT ltM (xOp ixM (xV 3) (xC (.int 1))) (xC (.int 1)))) (xRet (xC (.bl false))) (xPass)) (xSeq (xIfS (xCmpT ltM (xOp ixM (xV 2) (xC (.int 1))) (xCall (F_must_come_in) [] (xCons (xV 0) (xCons (xOp ixM (xV 3) (xC (.int 1))) (xNil))))) (xRet (xC (.bl false))) (xPass)) (xRet (xAndV (xOp geM (xOp ixM (xV 2) (xC (.int 2))) (xOp addM (xOp ixM (xV 3) (xC (.int 2))) (xOp ixM (xV 0) (xC (.int 2))))) (xOp gtM (xOp ixM (xV 3) (xC (.int 2))) (xV 1)))))
def F_may_give : List D → M D := runD 4 4 B_may_give
def L_law_0 : Ev → M Fl := xSeq (xAsg (xTup (xCons (xC (.int 1)) (xCons (xOp ixM (xOp ixM (xV 6) (xV 10)) (xC (.int 0))) (xCons (xOp ixM (xOp ixM (xV 6) (xV 10)) (xC (.int 1))) (xCons (xC (.bl true)) (xNil)))))) (gSet 15)) (xSeq (xAsg (xTup (xCons (xC (.int 1)) (xCons (xOp ixM (xOp ixM (xV 6) (xOp addM (xV 10) (xC (.int 1)))) (xC (.int 0))) (xCons (xOp ixM (xOp ixM (xV 6) (xOp addM (xV 10) (xC (.int 1)))) (xC (.int 1))) (xCons (xC (.bl true)) (xNil)))))) (gSet 16)) (xSeq (xAsg (xCall (F__law_take) [] (xCons (xV 1) (xCons (xOp ixM (xV 16) (xC (.int 2))) (xNil)))) (gSet 17)) (xSeq (xIfS (xOrT (xCmpT isntM (xCall (F_may_give) [] (xCons (xOp ixM (xV 3) (xV 10)) (xCons (xV 17) (xCons (xV 15) (xCons (xV 16) (xNil)))))) (xC (.bl true))) (xCmpT isntM (xCall (F_may_give) [] (xCons (xOp ixM (xV 3) (xV 10)) (xCons (xOp ixM (xV 16) (xC (.int 2))) (xCons (xV 15) (xCons (xV 16) (xNil)))))) (xC (.bl false)))) (xRet (xC (.bl false))) (xPass)) (xSeq (xIfS (xCmpT isntM (xCall (F_may_give) [] (xCons (xOp ixM (xV 3) (xV 10)) (xCons (xV 17) (xCons (xTup (xCons (xC (.int 1)) (xCons (xOp subM (xOp ixM (xV 15) (xC (.int 1))) (xC (.int 1))) (xCons (xOp ixM (xV 15) (xC (.int 2))) (xCons (xC (.bl true)) (xNil)))))) (xCons (xV 16) (xNil)))))) (xC (.bl false))) (xRet (xC (.bl false))) (xPass)) (xIfS (xCmpT isntM (xCall (F_may_give) [] (xCons (xOp ixM (xV 3) (xV 10)) (xCons (xV 17) (xCons (xTup (xCons (xC (.int 1)) (xCons (xOp ixM (xV 15) (xC (.int 1))) (xCons (xOp subM (xOp ixM (xV 15) (xC (.int 2))) (xC (.int 1))) (xCons (xC (.bl true)) (xNil)))))) (xCons (xV 16) (xNil)))))) (xC (.bl false))) (xRet (xC (.bl false))) (xPass))))))
def L_law_1 : Ev → M Fl := xSeq (xAsg (xIf (xCmpT leM (xCall (F_must_come_in) [] (xCons (xV 11) (xCons (xV 14) (xNil)))) (xV 12)) (xV 14) (xV 13)) (gSet 13)) (xIfS (xOrT (xCmpT leM (xCall (F_must_come_in) [] (xCons (xV 11) (xCons (xV 14) (xNil)))) (xCall (F_must_come_in) [] (xCons (xV 11) (xCons (xOp subM (xV 14) (xC (.int 1))) (xNil))))) (xCmpT neM (xCall (F_must_come_in) [] (xCons (xV 11) (xCons (xV 14) (xNil)))) (xOp subM (xOp addM (xV 14) (xOp ixM (xV 11) (xC (.int 0)))) (xOp fdivM (xOp mulM (xUn negM (xV 14)) (xOp ixM (xV 11) (xC (.int 1)))) (xC (.int 1000)))))) (xRet (xC (.bl false))) (xPass))
def L_law_2 : Ev → M Fl := xSeq (xAsg (xComp (xRange1 (xCons (xCall (F__law_take) [] (xCons (xV 1) (xCons (xC (.int 13)) (xNil)))) (xNil))) (gSet 10) (xYes) (xTup (xCons (xCall (F__law_take) [] (xCons (xV 1) (xCons (xC (.int 30)) (xNil)))) (xCons (xCall (F__law_take) [] (xCons (xV 1) (xCons (xC (.int 600)) (xNil)))) (xCons (xCall (F__law_take) [] (xCons (xV 1) (xCons (xC (.int 9)) (xNil)))) (xNil))))) [10]) (gSet 3)) (xSeq (xAsg (xOp addM (xC (.int 1)) (xCall (F__law_take) [] (xCons (xV 1) (xCons (xC (.int 5000)) (xNil))))) (gSet 4)) (xSeq (xAsg (xOp addM (xC (.int 5)) (xCall (F__law_take) [] (xCons (xV 1) (xCons (xC (.int 90)) (xNil))))) (gSet 5)) (xSeq (xAsg (xCall (F_legs) [] (xCons (xV 4) (xCons (xV 5) (xCons (xB listM (xCons (xV 3) (xNil))) (xNil))))) (gSet 6)) (xSeq (xAsg (xCall (F__law_take) [] (xCons (xV 1) (xCons (xOp addM (xB lenM (xCons (xV 3) (xNil))) (xC (.int 1))) (xNil)))) (gSet 7)) (xSeq (xAsg (xCall (F_legs) [] (xCons (xV 4) (xCons (xV 5) (xCons (xSl (xV 3) (xPart (xV 7)) (xNoPart)) (xNil))))) (gSet 8)) (xSeq (xAsg (xCall (F_legs) [] (xCons (xOp ixM (xOp ixM (xV 8) (xC (.int 0))) (xC (.int 0))) (xCons (xOp ixM (xOp ixM (xV 8) (xC (.int 0))) (xC (.int 1))) (xCons (xSl (xV 3) (xNoPart) (xPart (xV 7))) (xNil))))) (gSet 9)) (xSeq (xIfS (xOrT (xNotT (xTru (xCall (F__law_same) [] (xCons (xV 6) (xCons (xOp addM (xSl (xV 9) (xNoPart) (xPart (xUn negM (xC (.int 1))))) (xV 8)) (xNil)))))) (xOrT (xCmpT neM (xB lenM (xCons (xV 6) (xNil))) (xOp addM (xB lenM (xCons (xV 3) (xNil))) (xC (.int 1)))) (xCmpT neM (xOp ixM (xV 6) (xB lenM (xCons (xV 3) (xNil)))) (xTup (xCons (xV 4) (xCons (xV 5) (xNil))))))) (xRet (xC (.bl false))) (xPass)) (xSeq (xFor (xRange1 (xCons (xB lenM (xCons (xV 3) (xNil))) (xNil))) (gSet 10) (L_law_0)) (xSeq (xAsg (xTup (xCons (xCall (F__law_take) [] (xCons (xV 1) (xCons (xC (.int 30)) (xNil)))) (xCons (xCall (F__law_take) [] (xCons (xV 1) (xCons (xC (.int 2000)) (xNil)))) (xCons (xC (.int 0)) (xNil))))) (gSet 11)) (xSeq (xAsg (xOp addM (xOp ixM (xV 11) (xC (.int 0))) (xCall (F__law_take) [] (xCons (xV 1) (xCons (xC (.int 900)) (xNil))))) (gSet 12)) (xSeq (xAsg (xC (.int 0)) (gSet 13)) (xSeq (xFor (xRange2 (xCons (xC (.int 1)) (xCons (xC (.int 931)) (xNil)))) (gSet 14) (L_law_1)) (xIfS (xOrT (xCmpT gtM (xCall (F_must_come_in) [] (xCons (xV 11) (xCons (xV 13) (xNil)))) (xV 12)) (xCmpT leM (xCall (F_must_come_in) [] (xCons (xV 11) (xCons (xOp addM (xV 13) (xC (.int 1))) (xNil)))) (xV 12))) (xRet (xC (.bl false))) (xPass))))))))))))))
def B_law : Ev → M Fl := xSeq (xAsg (xCall (F__law_deck) [] (xCons (xV 0) (xCons (xC (.int 50)) (xCons (xC (.int 14)) (xNil))))) (gSet 1)) (xSeq (xFor (xRange1 (xCons (xC (.int 4)) (xNil))) (gSet 2) (L_law_2)) (xRet (xC (.bl true))))
def F_law : List D → M D := runD 1 18 B_law
end Lk04

set_option Elab.async false
set_option linter.all false
set_option autoImplicit false
set_option maxRecDepth 100000
set_option maxHeartbeats 4000000
namespace Lk04
open Dt PySem
/-! ### the deck -/
theorem deck_law (ns : List Int) (cells each : Int) (hc : 0 ≤ cells ∧ cells ≤ 900) (he : 0 ≤ each ∧ each ≤ 900) (QQ : D → Hd → Prop) (q : ∀ h, Dk h → h[0]? = some (.ro (ns.map D.int)) → QQ (.ref 1) h) : W (F__law_deck [.ref 0, .int cells, .int each]) [.ro (ns.map D.int)] QQ := by
  unfold F__law_deck B__law_deck
  refine w_run rfl ?_
  try simp only [W_seq, W_asg, W_set, W_V, WV_some, W_C, W_op, W_cmpT, W_isB, W_un, W_tru, W_andT, W_orT, W_notT, W_andV, W_orV, W_notV, W_ife, W_nil, W_cons, W_tup, W_lst, W_addI, W_subI, W_iaddI, W_negI, W_mulI, W_fdivI, W_modI, W_powI, W_cmpI, W_isB_bl, W_isNB, W_isN, W_isntB, W_isntN, W_eqI, W_neI, W_pass, W_brk, W_cont, W_drop, W_rt, W_rtN, W_ifS, W_gsNil, W_gsCons, W_gTup, W_aug, W_call, W_B, RtN_rt, RtN_nx, W_abs, W_intI, W_intB, W_noPart, W_part, W_sl, W_lm, W_lm0, W_iter, W_range1, W_range2, W_forE, W_revE, W_compE, W_yes, W_lenT, W_truB, W_truI, List.append_nil, List.getElem?_cons_zero, List.getElem?_cons_succ, List.set_cons_zero, List.set_cons_succ, List.getElem?_set_self, List.getElem?_set_ne, List.length_set, ne_eq, Nat.reduceEqDiff, not_false_eq_true, Nat.reduceLT, Nat.zero_ne_one, Nat.one_ne_zero, Nat.lt_add_one, Nat.zero_lt_succ, startD, List.map_cons, List.map_nil, List.length_cons, List.length_nil, List.cons_append, List.nil_append, Nat.reduceAdd, Nat.reduceSub, Nat.zero_add, List.replicate_succ, List.replicate_zero]
  refine ⟨by decide, ?_⟩
  rw [W_lenR (xs := ns.map D.int) rfl]
  try simp only [W_seq, W_asg, W_set, W_V, WV_some, W_C, W_op, W_cmpT, W_isB, W_un, W_tru, W_andT, W_orT, W_notT, W_andV, W_orV, W_notV, W_ife, W_nil, W_cons, W_tup, W_lst, W_addI, W_subI, W_iaddI, W_negI, W_mulI, W_fdivI, W_modI, W_powI, W_cmpI, W_isB_bl, W_isNB, W_isN, W_isntB, W_isntN, W_eqI, W_neI, W_pass, W_brk, W_cont, W_drop, W_rt, W_rtN, W_ifS, W_gsNil, W_gsCons, W_gTup, W_aug, W_call, W_B, RtN_rt, RtN_nx, W_abs, W_intI, W_intB, W_noPart, W_part, W_sl, W_lm, W_lm0, W_iter, W_range1, W_range2, W_forE, W_revE, W_compE, W_yes, W_lenT, W_truB, W_truI, List.append_nil, List.getElem?_cons_zero, List.getElem?_cons_succ, List.set_cons_zero, List.set_cons_succ, List.getElem?_set_self, List.getElem?_set_ne, List.length_set, ne_eq, Nat.reduceEqDiff, not_false_eq_true, Nat.reduceLT, Nat.zero_ne_one, Nat.one_ne_zero, Nat.lt_add_one, Nat.zero_lt_succ, startD, List.map_cons, List.map_nil, List.length_cons, List.length_nil, List.cons_append, List.nil_append, Nat.reduceAdd, Nat.reduceSub, Nat.zero_add, List.replicate_succ, List.replicate_zero]
  refine ⟨_, rfl, by omega, ?_⟩
  refine w_forR (fun k σ h => σ.length = 9 ∧ σ[0]? = some (some (.ref 0)) ∧ σ[2]? = some (some (.int each)) ∧ σ[3]? = some (some (.ref 1)) ∧ (∃ s : Int, σ[4]? = some (some (.int s))) ∧ h[0]? = some (.ro (ns.map D.int)) ∧ ∃ xs : List Int, h[1]? = some (.lst (xs.map D.int)) ∧ xs.length ≤ k * each.toNat) ⟨by simp, by simp, by simp, by simp, ⟨_, by simp; rfl⟩, by simp, [], by simp, by simp⟩ ?_ ?_
  · rintro k σ h hk ⟨hl, s0, s2, s3, ⟨s, s4⟩, c0, xs, c1, lx⟩
    suffices z : ∀ QX : Fl → Hd → Prop, (∀ (σ' : Ev) (h2 : Hd), (σ'.length = 9 ∧ σ'[0]? = some (some (.ref 0)) ∧ σ'[2]? = some (some (.int each)) ∧ σ'[3]? = some (some (.ref 1)) ∧ (∃ s : Int, σ'[4]? = some (some (.int s))) ∧ h2[0]? = some (.ro (ns.map D.int)) ∧ ∃ xs : List Int, h2[1]? = some (.lst (xs.map D.int)) ∧ xs.length ≤ (k + 1) * each.toNat) → QX (.nx σ') h2) → W (gSet 5 (.int (0 + (k : Int))) σ) h fun σ1 h1 => W (L__law_deck_1 σ1) h1 QX from z _ fun σ' h2 p => p
    intro QX hQ
    unfold L__law_deck_1
    have key : ∀ (cell : Int), W (xSeq (xAsg (xOp mulM (xB absM (xCons (xV 6) (xNil))) (xB intM (xCons (xOp geM (xB absM (xCons (xV 6) (xNil))) (xOp powM (xC (.int 10)) (xC (.int 18)))) (xNil)))) (gSet 7)) (xSeq (xAsg (xOp modM (xB intM (xCons (xOp addM (xOp addM (xOp addM (xOp mulM (xV 4) (xC (.int 48271))) (xOp mulM (xC (.int 3)) (xOp modM (xB intM (xCons (xB absM (xCons (xV 6) (xNil))) (xNil))) (xC (.int 2147483587))))) (xB intM (xCons (xOp ltM (xV 6) (xC (.int 0))) (xNil)))) (xV 5)) (xNil))) (xC (.int 2147483647))) (gSet 4)) (xFor (xRange1 (xCons (xV 2) (xNil))) (gSet 8) (L__law_deck_0))) ((σ.set 5 (some (.int (0 + (k : Int))))).set 6 (some (.int cell)))) h QX := by
      intro cell
      try simp only [W_seq, W_asg, W_set, W_V, WV_some, W_C, W_op, W_cmpT, W_isB, W_un, W_tru, W_andT, W_orT, W_notT, W_andV, W_orV, W_notV, W_ife, W_nil, W_cons, W_tup, W_lst, W_addI, W_subI, W_iaddI, W_negI, W_mulI, W_fdivI, W_modI, W_powI, W_cmpI, W_isB_bl, W_isNB, W_isN, W_isntB, W_isntN, W_eqI, W_neI, W_pass, W_brk, W_cont, W_drop, W_rt, W_rtN, W_ifS, W_gsNil, W_gsCons, W_gTup, W_aug, W_call, W_B, RtN_rt, RtN_nx, W_abs, W_intI, W_intB, W_noPart, W_part, W_sl, W_lm, W_lm0, W_iter, W_range1, W_range2, W_forE, W_revE, W_compE, W_yes, W_lenT, W_truB, W_truI, List.append_nil, List.getElem?_cons_zero, List.getElem?_cons_succ, List.set_cons_zero, List.set_cons_succ, List.getElem?_set_self, List.getElem?_set_ne, List.length_set, ne_eq, Nat.reduceEqDiff, not_false_eq_true, Nat.reduceLT, Nat.zero_ne_one, Nat.one_ne_zero, Nat.lt_add_one, Nat.zero_lt_succ, startD, List.map_cons, List.map_nil, List.length_cons, List.length_nil, List.cons_append, List.nil_append, Nat.reduceAdd, Nat.reduceSub, Nat.zero_add, List.replicate_succ, List.replicate_zero, hl, s0, s2, s3, s4]
      refine ⟨by decide, ?_⟩
      try simp only [W_seq, W_asg, W_set, W_V, WV_some, W_C, W_op, W_cmpT, W_isB, W_un, W_tru, W_andT, W_orT, W_notT, W_andV, W_orV, W_notV, W_ife, W_nil, W_cons, W_tup, W_lst, W_addI, W_subI, W_iaddI, W_negI, W_mulI, W_fdivI, W_modI, W_powI, W_cmpI, W_isB_bl, W_isNB, W_isN, W_isntB, W_isntN, W_eqI, W_neI, W_pass, W_brk, W_cont, W_drop, W_rt, W_rtN, W_ifS, W_gsNil, W_gsCons, W_gTup, W_aug, W_call, W_B, RtN_rt, RtN_nx, W_abs, W_intI, W_intB, W_noPart, W_part, W_sl, W_lm, W_lm0, W_iter, W_range1, W_range2, W_forE, W_revE, W_compE, W_yes, W_lenT, W_truB, W_truI, List.append_nil, List.getElem?_cons_zero, List.getElem?_cons_succ, List.set_cons_zero, List.set_cons_succ, List.getElem?_set_self, List.getElem?_set_ne, List.length_set, ne_eq, Nat.reduceEqDiff, not_false_eq_true, Nat.reduceLT, Nat.zero_ne_one, Nat.one_ne_zero, Nat.lt_add_one, Nat.zero_lt_succ, startD, List.map_cons, List.map_nil, List.length_cons, List.length_nil, List.cons_append, List.nil_append, Nat.reduceAdd, Nat.reduceSub, Nat.zero_add, List.replicate_succ, List.replicate_zero, hl, s0, s2, s3, s4]
      refine ⟨.inr (by repeat' split
                       all_goals decide), ?_⟩
      try simp only [W_seq, W_asg, W_set, W_V, WV_some, W_C, W_op, W_cmpT, W_isB, W_un, W_tru, W_andT, W_orT, W_notT, W_andV, W_orV, W_notV, W_ife, W_nil, W_cons, W_tup, W_lst, W_addI, W_subI, W_iaddI, W_negI, W_mulI, W_fdivI, W_modI, W_powI, W_cmpI, W_isB_bl, W_isNB, W_isN, W_isntB, W_isntN, W_eqI, W_neI, W_pass, W_brk, W_cont, W_drop, W_rt, W_rtN, W_ifS, W_gsNil, W_gsCons, W_gTup, W_aug, W_call, W_B, RtN_rt, RtN_nx, W_abs, W_intI, W_intB, W_noPart, W_part, W_sl, W_lm, W_lm0, W_iter, W_range1, W_range2, W_forE, W_revE, W_compE, W_yes, W_lenT, W_truB, W_truI, List.append_nil, List.getElem?_cons_zero, List.getElem?_cons_succ, List.set_cons_zero, List.set_cons_succ, List.getElem?_set_self, List.getElem?_set_ne, List.length_set, ne_eq, Nat.reduceEqDiff, not_false_eq_true, Nat.reduceLT, Nat.zero_ne_one, Nat.one_ne_zero, Nat.lt_add_one, Nat.zero_lt_succ, startD, List.map_cons, List.map_nil, List.length_cons, List.length_nil, List.cons_append, List.nil_append, Nat.reduceAdd, Nat.reduceSub, Nat.zero_add, List.replicate_succ, List.replicate_zero, hl, s0, s2, s3, s4]
      refine ⟨.inr (by decide), ?_⟩
      try simp only [W_seq, W_asg, W_set, W_V, WV_some, W_C, W_op, W_cmpT, W_isB, W_un, W_tru, W_andT, W_orT, W_notT, W_andV, W_orV, W_notV, W_ife, W_nil, W_cons, W_tup, W_lst, W_addI, W_subI, W_iaddI, W_negI, W_mulI, W_fdivI, W_modI, W_powI, W_cmpI, W_isB_bl, W_isNB, W_isN, W_isntB, W_isntN, W_eqI, W_neI, W_pass, W_brk, W_cont, W_drop, W_rt, W_rtN, W_ifS, W_gsNil, W_gsCons, W_gTup, W_aug, W_call, W_B, RtN_rt, RtN_nx, W_abs, W_intI, W_intB, W_noPart, W_part, W_sl, W_lm, W_lm0, W_iter, W_range1, W_range2, W_forE, W_revE, W_compE, W_yes, W_lenT, W_truB, W_truI, List.append_nil, List.getElem?_cons_zero, List.getElem?_cons_succ, List.set_cons_zero, List.set_cons_succ, List.getElem?_set_self, List.getElem?_set_ne, List.length_set, ne_eq, Nat.reduceEqDiff, not_false_eq_true, Nat.reduceLT, Nat.zero_ne_one, Nat.one_ne_zero, Nat.lt_add_one, Nat.zero_lt_succ, startD, List.map_cons, List.map_nil, List.length_cons, List.length_nil, List.cons_append, List.nil_append, Nat.reduceAdd, Nat.reduceSub, Nat.zero_add, List.replicate_succ, List.replicate_zero, hl, s0, s2, s3, s4]
      refine ⟨by decide, ?_⟩
      try simp only [W_seq, W_asg, W_set, W_V, WV_some, W_C, W_op, W_cmpT, W_isB, W_un, W_tru, W_andT, W_orT, W_notT, W_andV, W_orV, W_notV, W_ife, W_nil, W_cons, W_tup, W_lst, W_addI, W_subI, W_iaddI, W_negI, W_mulI, W_fdivI, W_modI, W_powI, W_cmpI, W_isB_bl, W_isNB, W_isN, W_isntB, W_isntN, W_eqI, W_neI, W_pass, W_brk, W_cont, W_drop, W_rt, W_rtN, W_ifS, W_gsNil, W_gsCons, W_gTup, W_aug, W_call, W_B, RtN_rt, RtN_nx, W_abs, W_intI, W_intB, W_noPart, W_part, W_sl, W_lm, W_lm0, W_iter, W_range1, W_range2, W_forE, W_revE, W_compE, W_yes, W_lenT, W_truB, W_truI, List.append_nil, List.getElem?_cons_zero, List.getElem?_cons_succ, List.set_cons_zero, List.set_cons_succ, List.getElem?_set_self, List.getElem?_set_ne, List.length_set, ne_eq, Nat.reduceEqDiff, not_false_eq_true, Nat.reduceLT, Nat.zero_ne_one, Nat.one_ne_zero, Nat.lt_add_one, Nat.zero_lt_succ, startD, List.map_cons, List.map_nil, List.length_cons, List.length_nil, List.cons_append, List.nil_append, Nat.reduceAdd, Nat.reduceSub, Nat.zero_add, List.replicate_succ, List.replicate_zero, hl, s0, s2, s3, s4]
      refine ⟨.inl (by decide), ?_⟩
      try simp only [W_seq, W_asg, W_set, W_V, WV_some, W_C, W_op, W_cmpT, W_isB, W_un, W_tru, W_andT, W_orT, W_notT, W_andV, W_orV, W_notV, W_ife, W_nil, W_cons, W_tup, W_lst, W_addI, W_subI, W_iaddI, W_negI, W_mulI, W_fdivI, W_modI, W_powI, W_cmpI, W_isB_bl, W_isNB, W_isN, W_isntB, W_isntN, W_eqI, W_neI, W_pass, W_brk, W_cont, W_drop, W_rt, W_rtN, W_ifS, W_gsNil, W_gsCons, W_gTup, W_aug, W_call, W_B, RtN_rt, RtN_nx, W_abs, W_intI, W_intB, W_noPart, W_part, W_sl, W_lm, W_lm0, W_iter, W_range1, W_range2, W_forE, W_revE, W_compE, W_yes, W_lenT, W_truB, W_truI, List.append_nil, List.getElem?_cons_zero, List.getElem?_cons_succ, List.set_cons_zero, List.set_cons_succ, List.getElem?_set_self, List.getElem?_set_ne, List.length_set, ne_eq, Nat.reduceEqDiff, not_false_eq_true, Nat.reduceLT, Nat.zero_ne_one, Nat.one_ne_zero, Nat.lt_add_one, Nat.zero_lt_succ, startD, List.map_cons, List.map_nil, List.length_cons, List.length_nil, List.cons_append, List.nil_append, Nat.reduceAdd, Nat.reduceSub, Nat.zero_add, List.replicate_succ, List.replicate_zero, hl, s0, s2, s3, s4]
      refine ⟨by decide, ?_⟩
      try simp only [W_seq, W_asg, W_set, W_V, WV_some, W_C, W_op, W_cmpT, W_isB, W_un, W_tru, W_andT, W_orT, W_notT, W_andV, W_orV, W_notV, W_ife, W_nil, W_cons, W_tup, W_lst, W_addI, W_subI, W_iaddI, W_negI, W_mulI, W_fdivI, W_modI, W_powI, W_cmpI, W_isB_bl, W_isNB, W_isN, W_isntB, W_isntN, W_eqI, W_neI, W_pass, W_brk, W_cont, W_drop, W_rt, W_rtN, W_ifS, W_gsNil, W_gsCons, W_gTup, W_aug, W_call, W_B, RtN_rt, RtN_nx, W_abs, W_intI, W_intB, W_noPart, W_part, W_sl, W_lm, W_lm0, W_iter, W_range1, W_range2, W_forE, W_revE, W_compE, W_yes, W_lenT, W_truB, W_truI, List.append_nil, List.getElem?_cons_zero, List.getElem?_cons_succ, List.set_cons_zero, List.set_cons_succ, List.getElem?_set_self, List.getElem?_set_ne, List.length_set, ne_eq, Nat.reduceEqDiff, not_false_eq_true, Nat.reduceLT, Nat.zero_ne_one, Nat.one_ne_zero, Nat.lt_add_one, Nat.zero_lt_succ, startD, List.map_cons, List.map_nil, List.length_cons, List.length_nil, List.cons_append, List.nil_append, Nat.reduceAdd, Nat.reduceSub, Nat.zero_add, List.replicate_succ, List.replicate_zero, hl, s0, s2, s3, s4]
      refine ⟨_, rfl, by omega, ?_⟩
      refine w_forR (fun j σ h => σ.length = 9 ∧ σ[0]? = some (some (.ref 0)) ∧ σ[2]? = some (some (.int each)) ∧ σ[3]? = some (some (.ref 1)) ∧ (∃ s : Int, σ[4]? = some (some (.int s))) ∧ (∃ s : Int, σ[7]? = some (some (.int s))) ∧ h[0]? = some (.ro (ns.map D.int)) ∧ ∃ xs : List Int, h[1]? = some (.lst (xs.map D.int)) ∧ xs.length ≤ k * each.toNat + j) ⟨by simp [hl], by simp [s0], by simp [s2], by simp [s3], ⟨_, by simp [hl]; rfl⟩, ⟨_, by simp [hl]; rfl⟩, c0, xs, c1, by omega⟩ ?_ ?_
      · rintro j σ h hj ⟨hl, s0, s2, s3, ⟨s, s4⟩, ⟨r, s7⟩, c0, xs, c1, lx⟩
        unfold Turn L__law_deck_0
        try simp only [W_seq, W_asg, W_set, W_V, WV_some, W_C, W_op, W_cmpT, W_isB, W_un, W_tru, W_andT, W_orT, W_notT, W_andV, W_orV, W_notV, W_ife, W_nil, W_cons, W_tup, W_lst, W_addI, W_subI, W_iaddI, W_negI, W_mulI, W_fdivI, W_modI, W_powI, W_cmpI, W_isB_bl, W_isNB, W_isN, W_isntB, W_isntN, W_eqI, W_neI, W_pass, W_brk, W_cont, W_drop, W_rt, W_rtN, W_ifS, W_gsNil, W_gsCons, W_gTup, W_aug, W_call, W_B, RtN_rt, RtN_nx, W_abs, W_intI, W_intB, W_noPart, W_part, W_sl, W_lm, W_lm0, W_iter, W_range1, W_range2, W_forE, W_revE, W_compE, W_yes, W_lenT, W_truB, W_truI, List.append_nil, List.getElem?_cons_zero, List.getElem?_cons_succ, List.set_cons_zero, List.set_cons_succ, List.getElem?_set_self, List.getElem?_set_ne, List.length_set, ne_eq, Nat.reduceEqDiff, not_false_eq_true, Nat.reduceLT, Nat.zero_ne_one, Nat.one_ne_zero, Nat.lt_add_one, Nat.zero_lt_succ, startD, List.map_cons, List.map_nil, List.length_cons, List.length_nil, List.cons_append, List.nil_append, Nat.reduceAdd, Nat.reduceSub, Nat.zero_add, List.replicate_succ, List.replicate_zero, hl, s0, s2, s3, s4, s7]
        refine ⟨.inr (by decide), ?_⟩
        try simp only [W_seq, W_asg, W_set, W_V, WV_some, W_C, W_op, W_cmpT, W_isB, W_un, W_tru, W_andT, W_orT, W_notT, W_andV, W_orV, W_notV, W_ife, W_nil, W_cons, W_tup, W_lst, W_addI, W_subI, W_iaddI, W_negI, W_mulI, W_fdivI, W_modI, W_powI, W_cmpI, W_isB_bl, W_isNB, W_isN, W_isntB, W_isntN, W_eqI, W_neI, W_pass, W_brk, W_cont, W_drop, W_rt, W_rtN, W_ifS, W_gsNil, W_gsCons, W_gTup, W_aug, W_call, W_B, RtN_rt, RtN_nx, W_abs, W_intI, W_intB, W_noPart, W_part, W_sl, W_lm, W_lm0, W_iter, W_range1, W_range2, W_forE, W_revE, W_compE, W_yes, W_lenT, W_truB, W_truI, List.append_nil, List.getElem?_cons_zero, List.getElem?_cons_succ, List.set_cons_zero, List.set_cons_succ, List.getElem?_set_self, List.getElem?_set_ne, List.length_set, ne_eq, Nat.reduceEqDiff, not_false_eq_true, Nat.reduceLT, Nat.zero_ne_one, Nat.one_ne_zero, Nat.lt_add_one, Nat.zero_lt_succ, startD, List.map_cons, List.map_nil, List.length_cons, List.length_nil, List.cons_append, List.nil_append, Nat.reduceAdd, Nat.reduceSub, Nat.zero_add, List.replicate_succ, List.replicate_zero, hl, s0, s2, s3, s4, s7]
        refine ⟨by decide, ?_⟩
        try simp only [W_seq, W_asg, W_set, W_V, WV_some, W_C, W_op, W_cmpT, W_isB, W_un, W_tru, W_andT, W_orT, W_notT, W_andV, W_orV, W_notV, W_ife, W_nil, W_cons, W_tup, W_lst, W_addI, W_subI, W_iaddI, W_negI, W_mulI, W_fdivI, W_modI, W_powI, W_cmpI, W_isB_bl, W_isNB, W_isN, W_isntB, W_isntN, W_eqI, W_neI, W_pass, W_brk, W_cont, W_drop, W_rt, W_rtN, W_ifS, W_gsNil, W_gsCons, W_gTup, W_aug, W_call, W_B, RtN_rt, RtN_nx, W_abs, W_intI, W_intB, W_noPart, W_part, W_sl, W_lm, W_lm0, W_iter, W_range1, W_range2, W_forE, W_revE, W_compE, W_yes, W_lenT, W_truB, W_truI, List.append_nil, List.getElem?_cons_zero, List.getElem?_cons_succ, List.set_cons_zero, List.set_cons_succ, List.getElem?_set_self, List.getElem?_set_ne, List.length_set, ne_eq, Nat.reduceEqDiff, not_false_eq_true, Nat.reduceLT, Nat.zero_ne_one, Nat.one_ne_zero, Nat.lt_add_one, Nat.zero_lt_succ, startD, List.map_cons, List.map_nil, List.length_cons, List.length_nil, List.cons_append, List.nil_append, Nat.reduceAdd, Nat.reduceSub, Nat.zero_add, List.replicate_succ, List.replicate_zero, hl, s0, s2, s3, s4, s7]
        rw [W_isLst c1]
        try simp only [W_seq, W_asg, W_set, W_V, WV_some, W_C, W_op, W_cmpT, W_isB, W_un, W_tru, W_andT, W_orT, W_notT, W_andV, W_orV, W_notV, W_ife, W_nil, W_cons, W_tup, W_lst, W_addI, W_subI, W_iaddI, W_negI, W_mulI, W_fdivI, W_modI, W_powI, W_cmpI, W_isB_bl, W_isNB, W_isN, W_isntB, W_isntN, W_eqI, W_neI, W_pass, W_brk, W_cont, W_drop, W_rt, W_rtN, W_ifS, W_gsNil, W_gsCons, W_gTup, W_aug, W_call, W_B, RtN_rt, RtN_nx, W_abs, W_intI, W_intB, W_noPart, W_part, W_sl, W_lm, W_lm0, W_iter, W_range1, W_range2, W_forE, W_revE, W_compE, W_yes, W_lenT, W_truB, W_truI, List.append_nil, List.getElem?_cons_zero, List.getElem?_cons_succ, List.set_cons_zero, List.set_cons_succ, List.getElem?_set_self, List.getElem?_set_ne, List.length_set, ne_eq, Nat.reduceEqDiff, not_false_eq_true, Nat.reduceLT, Nat.zero_ne_one, Nat.one_ne_zero, Nat.lt_add_one, Nat.zero_lt_succ, startD, List.map_cons, List.map_nil, List.length_cons, List.length_nil, List.cons_append, List.nil_append, Nat.reduceAdd, Nat.reduceSub, Nat.zero_add, List.replicate_succ, List.replicate_zero, hl, s0, s2, s3, s4, s7]
        refine ⟨by decide, ?_⟩
        try simp only [W_seq, W_asg, W_set, W_V, WV_some, W_C, W_op, W_cmpT, W_isB, W_un, W_tru, W_andT, W_orT, W_notT, W_andV, W_orV, W_notV, W_ife, W_nil, W_cons, W_tup, W_lst, W_addI, W_subI, W_iaddI, W_negI, W_mulI, W_fdivI, W_modI, W_powI, W_cmpI, W_isB_bl, W_isNB, W_isN, W_isntB, W_isntN, W_eqI, W_neI, W_pass, W_brk, W_cont, W_drop, W_rt, W_rtN, W_ifS, W_gsNil, W_gsCons, W_gTup, W_aug, W_call, W_B, RtN_rt, RtN_nx, W_abs, W_intI, W_intB, W_noPart, W_part, W_sl, W_lm, W_lm0, W_iter, W_range1, W_range2, W_forE, W_revE, W_compE, W_yes, W_lenT, W_truB, W_truI, List.append_nil, List.getElem?_cons_zero, List.getElem?_cons_succ, List.set_cons_zero, List.set_cons_succ, List.getElem?_set_self, List.getElem?_set_ne, List.length_set, ne_eq, Nat.reduceEqDiff, not_false_eq_true, Nat.reduceLT, Nat.zero_ne_one, Nat.one_ne_zero, Nat.lt_add_one, Nat.zero_lt_succ, startD, List.map_cons, List.map_nil, List.length_cons, List.length_nil, List.cons_append, List.nil_append, Nat.reduceAdd, Nat.reduceSub, Nat.zero_add, List.replicate_succ, List.replicate_zero, hl, s0, s2, s3, s4, s7]
        refine ⟨by decide, ?_⟩
        try simp only [W_seq, W_asg, W_set, W_V, WV_some, W_C, W_op, W_cmpT, W_isB, W_un, W_tru, W_andT, W_orT, W_notT, W_andV, W_orV, W_notV, W_ife, W_nil, W_cons, W_tup, W_lst, W_addI, W_subI, W_iaddI, W_negI, W_mulI, W_fdivI, W_modI, W_powI, W_cmpI, W_isB_bl, W_isNB, W_isN, W_isntB, W_isntN, W_eqI, W_neI, W_pass, W_brk, W_cont, W_drop, W_rt, W_rtN, W_ifS, W_gsNil, W_gsCons, W_gTup, W_aug, W_call, W_B, RtN_rt, RtN_nx, W_abs, W_intI, W_intB, W_noPart, W_part, W_sl, W_lm, W_lm0, W_iter, W_range1, W_range2, W_forE, W_revE, W_compE, W_yes, W_lenT, W_truB, W_truI, List.append_nil, List.getElem?_cons_zero, List.getElem?_cons_succ, List.set_cons_zero, List.set_cons_succ, List.getElem?_set_self, List.getElem?_set_ne, List.length_set, ne_eq, Nat.reduceEqDiff, not_false_eq_true, Nat.reduceLT, Nat.zero_ne_one, Nat.one_ne_zero, Nat.lt_add_one, Nat.zero_lt_succ, startD, List.map_cons, List.map_nil, List.length_cons, List.length_nil, List.cons_append, List.nil_append, Nat.reduceAdd, Nat.reduceSub, Nat.zero_add, List.replicate_succ, List.replicate_zero, hl, s0, s2, s3, s4, s7]
        obtain ⟨v, hv⟩ : ∃ v : Int, L2.atI ([.int ((s * 69621 + (0 + (j : Int)) + 1) % 2147483629 / 7), .int r] : List D) (if decide (0 < r) = true then 1 else 0) = some (.int v) := by
          split
          · exact ⟨_, rfl⟩
          · exact ⟨_, rfl⟩
        rw [W_ixL get_push hv]
        try simp only [W_seq, W_asg, W_set, W_V, WV_some, W_C, W_op, W_cmpT, W_isB, W_un, W_tru, W_andT, W_orT, W_notT, W_andV, W_orV, W_notV, W_ife, W_nil, W_cons, W_tup, W_lst, W_addI, W_subI, W_iaddI, W_negI, W_mulI, W_fdivI, W_modI, W_powI, W_cmpI, W_isB_bl, W_isNB, W_isN, W_isntB, W_isntN, W_eqI, W_neI, W_pass, W_brk, W_cont, W_drop, W_rt, W_rtN, W_ifS, W_gsNil, W_gsCons, W_gTup, W_aug, W_call, W_B, RtN_rt, RtN_nx, W_abs, W_intI, W_intB, W_noPart, W_part, W_sl, W_lm, W_lm0, W_iter, W_range1, W_range2, W_forE, W_revE, W_compE, W_yes, W_lenT, W_truB, W_truI, List.append_nil, List.getElem?_cons_zero, List.getElem?_cons_succ, List.set_cons_zero, List.set_cons_succ, List.getElem?_set_self, List.getElem?_set_ne, List.length_set, ne_eq, Nat.reduceEqDiff, not_false_eq_true, Nat.reduceLT, Nat.zero_ne_one, Nat.one_ne_zero, Nat.lt_add_one, Nat.zero_lt_succ, startD, List.map_cons, List.map_nil, List.length_cons, List.length_nil, List.cons_append, List.nil_append, Nat.reduceAdd, Nat.reduceSub, Nat.zero_add, List.replicate_succ, List.replicate_zero, hl, s0, s2, s3, s4, s7]
        refine ⟨by decide, ?_⟩
        have hkk : (k + 1) * each.toNat ≤ 900 * 900 := Nat.mul_le_mul (by omega) (by omega)
        rw [Nat.succ_mul] at hkk
        rw [W_app (get_pushL c1) (by show _ < 1000000; simp; omega)]
        try simp only [W_seq, W_asg, W_set, W_V, WV_some, W_C, W_op, W_cmpT, W_isB, W_un, W_tru, W_andT, W_orT, W_notT, W_andV, W_orV, W_notV, W_ife, W_nil, W_cons, W_tup, W_lst, W_addI, W_subI, W_iaddI, W_negI, W_mulI, W_fdivI, W_modI, W_powI, W_cmpI, W_isB_bl, W_isNB, W_isN, W_isntB, W_isntN, W_eqI, W_neI, W_pass, W_brk, W_cont, W_drop, W_rt, W_rtN, W_ifS, W_gsNil, W_gsCons, W_gTup, W_aug, W_call, W_B, RtN_rt, RtN_nx, W_abs, W_intI, W_intB, W_noPart, W_part, W_sl, W_lm, W_lm0, W_iter, W_range1, W_range2, W_forE, W_revE, W_compE, W_yes, W_lenT, W_truB, W_truI, List.append_nil, List.getElem?_cons_zero, List.getElem?_cons_succ, List.set_cons_zero, List.set_cons_succ, List.getElem?_set_self, List.getElem?_set_ne, List.length_set, ne_eq, Nat.reduceEqDiff, not_false_eq_true, Nat.reduceLT, Nat.zero_ne_one, Nat.one_ne_zero, Nat.lt_add_one, Nat.zero_lt_succ, startD, List.map_cons, List.map_nil, List.length_cons, List.length_nil, List.cons_append, List.nil_append, Nat.reduceAdd, Nat.reduceSub, Nat.zero_add, List.replicate_succ, List.replicate_zero, hl, s0, s2, s3, s4, s7]
        refine ⟨by decide, ?_⟩
        refine ⟨by simp [hl], by simp [s0], by simp [s2], by simp [s3], ⟨_, by simp [hl]; rfl⟩, ⟨_, by simp [hl]; rfl⟩, ?_, xs ++ [v % 1000003], ?_, by simp; omega⟩
        · first | exact get_pushL c0 | (rw [List.getElem?_set_ne (by decide)]; exact get_pushL c0)
        · rw [get_set (get_pushL c1)]; simp
      · rintro σ h ⟨hl, s0, s2, s3, s4, _, c0, xs, c1, lx⟩
        exact hQ _ _ ⟨hl, s0, s2, s3, s4, c0, xs, c1, by rw [Nat.succ_mul]; exact lx⟩
    try simp only [W_seq, W_asg, W_set, W_V, WV_some, W_C, W_op, W_cmpT, W_isB, W_un, W_tru, W_andT, W_orT, W_notT, W_andV, W_orV, W_notV, W_ife, W_nil, W_cons, W_tup, W_lst, W_addI, W_subI, W_iaddI, W_negI, W_mulI, W_fdivI, W_modI, W_powI, W_cmpI, W_isB_bl, W_isNB, W_isN, W_isntB, W_isntN, W_eqI, W_neI, W_pass, W_brk, W_cont, W_drop, W_rt, W_rtN, W_ifS, W_gsNil, W_gsCons, W_gTup, W_aug, W_call, W_B, RtN_rt, RtN_nx, W_abs, W_intI, W_intB, W_noPart, W_part, W_sl, W_lm, W_lm0, W_iter, W_range1, W_range2, W_forE, W_revE, W_compE, W_yes, W_lenT, W_truB, W_truI, List.append_nil, List.getElem?_cons_zero, List.getElem?_cons_succ, List.set_cons_zero, List.set_cons_succ, List.getElem?_set_self, List.getElem?_set_ne, List.length_set, ne_eq, Nat.reduceEqDiff, not_false_eq_true, Nat.reduceLT, Nat.zero_ne_one, Nat.one_ne_zero, Nat.lt_add_one, Nat.zero_lt_succ, startD, List.map_cons, List.map_nil, List.length_cons, List.length_nil, List.cons_append, List.nil_append, Nat.reduceAdd, Nat.reduceSub, Nat.zero_add, List.replicate_succ, List.replicate_zero, hl, s0, s2, s3, s4]
    rw [W_lenR c0]
    try simp only [W_seq, W_asg, W_set, W_V, WV_some, W_C, W_op, W_cmpT, W_isB, W_un, W_tru, W_andT, W_orT, W_notT, W_andV, W_orV, W_notV, W_ife, W_nil, W_cons, W_tup, W_lst, W_addI, W_subI, W_iaddI, W_negI, W_mulI, W_fdivI, W_modI, W_powI, W_cmpI, W_isB_bl, W_isNB, W_isN, W_isntB, W_isntN, W_eqI, W_neI, W_pass, W_brk, W_cont, W_drop, W_rt, W_rtN, W_ifS, W_gsNil, W_gsCons, W_gTup, W_aug, W_call, W_B, RtN_rt, RtN_nx, W_abs, W_intI, W_intB, W_noPart, W_part, W_sl, W_lm, W_lm0, W_iter, W_range1, W_range2, W_forE, W_revE, W_compE, W_yes, W_lenT, W_truB, W_truI, List.append_nil, List.getElem?_cons_zero, List.getElem?_cons_succ, List.set_cons_zero, List.set_cons_succ, List.getElem?_set_self, List.getElem?_set_ne, List.length_set, ne_eq, Nat.reduceEqDiff, not_false_eq_true, Nat.reduceLT, Nat.zero_ne_one, Nat.one_ne_zero, Nat.lt_add_one, Nat.zero_lt_succ, startD, List.map_cons, List.map_nil, List.length_cons, List.length_nil, List.cons_append, List.nil_append, Nat.reduceAdd, Nat.reduceSub, Nat.zero_add, List.replicate_succ, List.replicate_zero, hl, s0, s2, s3, s4]
    by_cases c : (0 : Int) + (k : Int) < ((ns.map D.int).length : Nat)
    · have ck : k < ns.length := by simp at c; omega
      simp only [c, decide_true, if_true, W_seq, W_asg, W_set, W_V, WV_some, W_C, W_op, W_cmpT, W_isB, W_un, W_tru, W_andT, W_orT, W_notT, W_andV, W_orV, W_notV, W_ife, W_nil, W_cons, W_tup, W_lst, W_addI, W_subI, W_iaddI, W_negI, W_mulI, W_fdivI, W_modI, W_powI, W_cmpI, W_isB_bl, W_isNB, W_isN, W_isntB, W_isntN, W_eqI, W_neI, W_pass, W_brk, W_cont, W_drop, W_rt, W_rtN, W_ifS, W_gsNil, W_gsCons, W_gTup, W_aug, W_call, W_B, RtN_rt, RtN_nx, W_abs, W_intI, W_intB, W_noPart, W_part, W_sl, W_lm, W_lm0, W_iter, W_range1, W_range2, W_forE, W_revE, W_compE, W_yes, W_lenT, W_truB, W_truI, List.append_nil, List.getElem?_cons_zero, List.getElem?_cons_succ, List.set_cons_zero, List.set_cons_succ, List.getElem?_set_self, List.getElem?_set_ne, List.length_set, ne_eq, Nat.reduceEqDiff, not_false_eq_true, Nat.reduceLT, Nat.zero_ne_one, Nat.one_ne_zero, Nat.lt_add_one, Nat.zero_lt_succ, startD, List.map_cons, List.map_nil, List.length_cons, List.length_nil, List.cons_append, List.nil_append, Nat.reduceAdd, Nat.reduceSub, Nat.zero_add, List.replicate_succ, List.replicate_zero, hl, s0, s2, s3, s4]
      rw [W_ixR c0 (d := .int ns[k]) (by rw [Int.zero_add]; exact L2.atI_nat (by simp [ck]))]
      try simp only [W_seq, W_asg, W_set, W_V, WV_some, W_C, W_op, W_cmpT, W_isB, W_un, W_tru, W_andT, W_orT, W_notT, W_andV, W_orV, W_notV, W_ife, W_nil, W_cons, W_tup, W_lst, W_addI, W_subI, W_iaddI, W_negI, W_mulI, W_fdivI, W_modI, W_powI, W_cmpI, W_isB_bl, W_isNB, W_isN, W_isntB, W_isntN, W_eqI, W_neI, W_pass, W_brk, W_cont, W_drop, W_rt, W_rtN, W_ifS, W_gsNil, W_gsCons, W_gTup, W_aug, W_call, W_B, RtN_rt, RtN_nx, W_abs, W_intI, W_intB, W_noPart, W_part, W_sl, W_lm, W_lm0, W_iter, W_range1, W_range2, W_forE, W_revE, W_compE, W_yes, W_lenT, W_truB, W_truI, List.append_nil, List.getElem?_cons_zero, List.getElem?_cons_succ, List.set_cons_zero, List.set_cons_succ, List.getElem?_set_self, List.getElem?_set_ne, List.length_set, ne_eq, Nat.reduceEqDiff, not_false_eq_true, Nat.reduceLT, Nat.zero_ne_one, Nat.one_ne_zero, Nat.lt_add_one, Nat.zero_lt_succ, startD, List.map_cons, List.map_nil, List.length_cons, List.length_nil, List.cons_append, List.nil_append, Nat.reduceAdd, Nat.reduceSub, Nat.zero_add, List.replicate_succ, List.replicate_zero, hl, s0, s2, s3, s4]
      have := key ns[k]
      try simp only [W_seq, W_asg, W_set, W_V, WV_some, W_C, W_op, W_cmpT, W_isB, W_un, W_tru, W_andT, W_orT, W_notT, W_andV, W_orV, W_notV, W_ife, W_nil, W_cons, W_tup, W_lst, W_addI, W_subI, W_iaddI, W_negI, W_mulI, W_fdivI, W_modI, W_powI, W_cmpI, W_isB_bl, W_isNB, W_isN, W_isntB, W_isntN, W_eqI, W_neI, W_pass, W_brk, W_cont, W_drop, W_rt, W_rtN, W_ifS, W_gsNil, W_gsCons, W_gTup, W_aug, W_call, W_B, RtN_rt, RtN_nx, W_abs, W_intI, W_intB, W_noPart, W_part, W_sl, W_lm, W_lm0, W_iter, W_range1, W_range2, W_forE, W_revE, W_compE, W_yes, W_lenT, W_truB, W_truI, List.append_nil, List.getElem?_cons_zero, List.getElem?_cons_succ, List.set_cons_zero, List.set_cons_succ, List.getElem?_set_self, List.getElem?_set_ne, List.length_set, ne_eq, Nat.reduceEqDiff, not_false_eq_true, Nat.reduceLT, Nat.zero_ne_one, Nat.one_ne_zero, Nat.lt_add_one, Nat.zero_lt_succ, startD, List.map_cons, List.map_nil, List.length_cons, List.length_nil, List.cons_append, List.nil_append, Nat.reduceAdd, Nat.reduceSub, Nat.zero_add, List.replicate_succ, List.replicate_zero, hl, s0, s2, s3, s4] at this
      exact this
    · simp only [c, decide_false, Bool.false_eq_true, if_false, W_seq, W_asg, W_set, W_V, WV_some, W_C, W_op, W_cmpT, W_isB, W_un, W_tru, W_andT, W_orT, W_notT, W_andV, W_orV, W_notV, W_ife, W_nil, W_cons, W_tup, W_lst, W_addI, W_subI, W_iaddI, W_negI, W_mulI, W_fdivI, W_modI, W_powI, W_cmpI, W_isB_bl, W_isNB, W_isN, W_isntB, W_isntN, W_eqI, W_neI, W_pass, W_brk, W_cont, W_drop, W_rt, W_rtN, W_ifS, W_gsNil, W_gsCons, W_gTup, W_aug, W_call, W_B, RtN_rt, RtN_nx, W_abs, W_intI, W_intB, W_noPart, W_part, W_sl, W_lm, W_lm0, W_iter, W_range1, W_range2, W_forE, W_revE, W_compE, W_yes, W_lenT, W_truB, W_truI, List.append_nil, List.getElem?_cons_zero, List.getElem?_cons_succ, List.set_cons_zero, List.set_cons_succ, List.getElem?_set_self, List.getElem?_set_ne, List.length_set, ne_eq, Nat.reduceEqDiff, not_false_eq_true, Nat.reduceLT, Nat.zero_ne_one, Nat.one_ne_zero, Nat.lt_add_one, Nat.zero_lt_succ, startD, List.map_cons, List.map_nil, List.length_cons, List.length_nil, List.cons_append, List.nil_append, Nat.reduceAdd, Nat.reduceSub, Nat.zero_add, List.replicate_succ, List.replicate_zero, hl, s0, s2, s3, s4]
      have := key 0
      try simp only [W_seq, W_asg, W_set, W_V, WV_some, W_C, W_op, W_cmpT, W_isB, W_un, W_tru, W_andT, W_orT, W_notT, W_andV, W_orV, W_notV, W_ife, W_nil, W_cons, W_tup, W_lst, W_addI, W_subI, W_iaddI, W_negI, W_mulI, W_fdivI, W_modI, W_powI, W_cmpI, W_isB_bl, W_isNB, W_isN, W_isntB, W_isntN, W_eqI, W_neI, W_pass, W_brk, W_cont, W_drop, W_rt, W_rtN, W_ifS, W_gsNil, W_gsCons, W_gTup, W_aug, W_call, W_B, RtN_rt, RtN_nx, W_abs, W_intI, W_intB, W_noPart, W_part, W_sl, W_lm, W_lm0, W_iter, W_range1, W_range2, W_forE, W_revE, W_compE, W_yes, W_lenT, W_truB, W_truI, List.append_nil, List.getElem?_cons_zero, List.getElem?_cons_succ, List.set_cons_zero, List.set_cons_succ, List.getElem?_set_self, List.getElem?_set_ne, List.length_set, ne_eq, Nat.reduceEqDiff, not_false_eq_true, Nat.reduceLT, Nat.zero_ne_one, Nat.one_ne_zero, Nat.lt_add_one, Nat.zero_lt_succ, startD, List.map_cons, List.map_nil, List.length_cons, List.length_nil, List.cons_append, List.nil_append, Nat.reduceAdd, Nat.reduceSub, Nat.zero_add, List.replicate_succ, List.replicate_zero, hl, s0, s2, s3, s4] at this
      exact this
  · rintro σ h ⟨hl, s0, s2, s3, s4, c0, xs, c1, lx⟩
    try simp only [W_seq, W_asg, W_set, W_V, WV_some, W_C, W_op, W_cmpT, W_isB, W_un, W_tru, W_andT, W_orT, W_notT, W_andV, W_orV, W_notV, W_ife, W_nil, W_cons, W_tup, W_lst, W_addI, W_subI, W_iaddI, W_negI, W_mulI, W_fdivI, W_modI, W_powI, W_cmpI, W_isB_bl, W_isNB, W_isN, W_isntB, W_isntN, W_eqI, W_neI, W_pass, W_brk, W_cont, W_drop, W_rt, W_rtN, W_ifS, W_gsNil, W_gsCons, W_gTup, W_aug, W_call, W_B, RtN_rt, RtN_nx, W_abs, W_intI, W_intB, W_noPart, W_part, W_sl, W_lm, W_lm0, W_iter, W_range1, W_range2, W_forE, W_revE, W_compE, W_yes, W_lenT, W_truB, W_truI, List.append_nil, List.getElem?_cons_zero, List.getElem?_cons_succ, List.set_cons_zero, List.set_cons_succ, List.getElem?_set_self, List.getElem?_set_ne, List.length_set, ne_eq, Nat.reduceEqDiff, not_false_eq_true, Nat.reduceLT, Nat.zero_ne_one, Nat.one_ne_zero, Nat.lt_add_one, Nat.zero_lt_succ, startD, List.map_cons, List.map_nil, List.length_cons, List.length_nil, List.cons_append, List.nil_append, Nat.reduceAdd, Nat.reduceSub, Nat.zero_add, List.replicate_succ, List.replicate_zero, hl, s0, s2, s3]
    rw [W_isLst c1]
    try simp only [W_seq, W_asg, W_set, W_V, WV_some, W_C, W_op, W_cmpT, W_isB, W_un, W_tru, W_andT, W_orT, W_notT, W_andV, W_orV, W_notV, W_ife, W_nil, W_cons, W_tup, W_lst, W_addI, W_subI, W_iaddI, W_negI, W_mulI, W_fdivI, W_modI, W_powI, W_cmpI, W_isB_bl, W_isNB, W_isN, W_isntB, W_isntN, W_eqI, W_neI, W_pass, W_brk, W_cont, W_drop, W_rt, W_rtN, W_ifS, W_gsNil, W_gsCons, W_gTup, W_aug, W_call, W_B, RtN_rt, RtN_nx, W_abs, W_intI, W_intB, W_noPart, W_part, W_sl, W_lm, W_lm0, W_iter, W_range1, W_range2, W_forE, W_revE, W_compE, W_yes, W_lenT, W_truB, W_truI, List.append_nil, List.getElem?_cons_zero, List.getElem?_cons_succ, List.set_cons_zero, List.set_cons_succ, List.getElem?_set_self, List.getElem?_set_ne, List.length_set, ne_eq, Nat.reduceEqDiff, not_false_eq_true, Nat.reduceLT, Nat.zero_ne_one, Nat.one_ne_zero, Nat.lt_add_one, Nat.zero_lt_succ, startD, List.map_cons, List.map_nil, List.length_cons, List.length_nil, List.cons_append, List.nil_append, Nat.reduceAdd, Nat.reduceSub, Nat.zero_add, List.replicate_succ, List.replicate_zero]
    rw [W_rev c1]
    try simp only [W_seq, W_asg, W_set, W_V, WV_some, W_C, W_op, W_cmpT, W_isB, W_un, W_tru, W_andT, W_orT, W_notT, W_andV, W_orV, W_notV, W_ife, W_nil, W_cons, W_tup, W_lst, W_addI, W_subI, W_iaddI, W_negI, W_mulI, W_fdivI, W_modI, W_powI, W_cmpI, W_isB_bl, W_isNB, W_isN, W_isntB, W_isntN, W_eqI, W_neI, W_pass, W_brk, W_cont, W_drop, W_rt, W_rtN, W_ifS, W_gsNil, W_gsCons, W_gTup, W_aug, W_call, W_B, RtN_rt, RtN_nx, W_abs, W_intI, W_intB, W_noPart, W_part, W_sl, W_lm, W_lm0, W_iter, W_range1, W_range2, W_forE, W_revE, W_compE, W_yes, W_lenT, W_truB, W_truI, List.append_nil, List.getElem?_cons_zero, List.getElem?_cons_succ, List.set_cons_zero, List.set_cons_succ, List.getElem?_set_self, List.getElem?_set_ne, List.length_set, ne_eq, Nat.reduceEqDiff, not_false_eq_true, Nat.reduceLT, Nat.zero_ne_one, Nat.one_ne_zero, Nat.lt_add_one, Nat.zero_lt_succ, startD, List.map_cons, List.map_nil, List.length_cons, List.length_nil, List.cons_append, List.nil_append, Nat.reduceAdd, Nat.reduceSub, Nat.zero_add, List.replicate_succ, List.replicate_zero, s3]
    exact q _ ⟨xs.reverse, by rw [get_set c1]; simp⟩ (by rw [List.getElem?_set_ne (by decide)]; exact c0)
theorem take_law {h : Hd} {m : Int} (hd : Dk h) (hm : 0 < m) {QQ : D → Hd → Prop} (q : ∀ (v : Int) (h' : Hd), 0 ≤ v → v < m → Fr [] h h' → Dk h' → QQ (.int v) h') : W (F__law_take [.ref 1, .int m]) h QQ := by
  unfold F__law_take B__law_take
  refine w_run rfl ?_
  obtain ⟨ns, e⟩ := hd
  try simp only [W_seq, W_asg, W_set, W_V, WV_some, W_C, W_op, W_cmpT, W_isB, W_un, W_tru, W_andT, W_orT, W_notT, W_andV, W_orV, W_notV, W_ife, W_nil, W_cons, W_tup, W_lst, W_addI, W_subI, W_iaddI, W_negI, W_mulI, W_fdivI, W_modI, W_powI, W_cmpI, W_isB_bl, W_isNB, W_isN, W_isntB, W_isntN, W_eqI, W_neI, W_pass, W_brk, W_cont, W_drop, W_rt, W_rtN, W_ifS, W_gsNil, W_gsCons, W_gTup, W_aug, W_call, W_B, RtN_rt, RtN_nx, W_abs, W_intI, W_intB, W_noPart, W_part, W_sl, W_lm, W_lm0, W_iter, W_range1, W_range2, W_forE, W_revE, W_compE, W_yes, W_lenT, W_truB, W_truI, List.append_nil, List.getElem?_cons_zero, List.getElem?_cons_succ, List.set_cons_zero, List.set_cons_succ, List.getElem?_set_self, List.getElem?_set_ne, List.length_set, ne_eq, Nat.reduceEqDiff, not_false_eq_true, Nat.reduceLT, Nat.zero_ne_one, Nat.one_ne_zero, Nat.lt_add_one, Nat.zero_lt_succ, startD, List.map_cons, List.map_nil, List.length_cons, List.length_nil, List.cons_append, List.nil_append, Nat.reduceAdd, Nat.reduceSub, Nat.zero_add, List.replicate_succ, List.replicate_zero]
  rw [W_lenL e]
  try simp only [W_seq, W_asg, W_set, W_V, WV_some, W_C, W_op, W_cmpT, W_isB, W_un, W_tru, W_andT, W_orT, W_notT, W_andV, W_orV, W_notV, W_ife, W_nil, W_cons, W_tup, W_lst, W_addI, W_subI, W_iaddI, W_negI, W_mulI, W_fdivI, W_modI, W_powI, W_cmpI, W_isB_bl, W_isNB, W_isN, W_isntB, W_isntN, W_eqI, W_neI, W_pass, W_brk, W_cont, W_drop, W_rt, W_rtN, W_ifS, W_gsNil, W_gsCons, W_gTup, W_aug, W_call, W_B, RtN_rt, RtN_nx, W_abs, W_intI, W_intB, W_noPart, W_part, W_sl, W_lm, W_lm0, W_iter, W_range1, W_range2, W_forE, W_revE, W_compE, W_yes, W_lenT, W_truB, W_truI, List.append_nil, List.getElem?_cons_zero, List.getElem?_cons_succ, List.set_cons_zero, List.set_cons_succ, List.getElem?_set_self, List.getElem?_set_ne, List.length_set, ne_eq, Nat.reduceEqDiff, not_false_eq_true, Nat.reduceLT, Nat.zero_ne_one, Nat.one_ne_zero, Nat.lt_add_one, Nat.zero_lt_succ, startD, List.map_cons, List.map_nil, List.length_cons, List.length_nil, List.cons_append, List.nil_append, Nat.reduceAdd, Nat.reduceSub, Nat.zero_add, List.replicate_succ, List.replicate_zero]
  by_cases c : (0 : Int) < ((ns.map D.int).length : Nat)
  · simp only [c, decide_true, if_true, W_seq, W_asg, W_set, W_V, WV_some, W_C, W_op, W_cmpT, W_isB, W_un, W_tru, W_andT, W_orT, W_notT, W_andV, W_orV, W_notV, W_ife, W_nil, W_cons, W_tup, W_lst, W_addI, W_subI, W_iaddI, W_negI, W_mulI, W_fdivI, W_modI, W_powI, W_cmpI, W_isB_bl, W_isNB, W_isN, W_isntB, W_isntN, W_eqI, W_neI, W_pass, W_brk, W_cont, W_drop, W_rt, W_rtN, W_ifS, W_gsNil, W_gsCons, W_gTup, W_aug, W_call, W_B, RtN_rt, RtN_nx, W_abs, W_intI, W_intB, W_noPart, W_part, W_sl, W_lm, W_lm0, W_iter, W_range1, W_range2, W_forE, W_revE, W_compE, W_yes, W_lenT, W_truB, W_truI, List.append_nil, List.getElem?_cons_zero, List.getElem?_cons_succ, List.set_cons_zero, List.set_cons_succ, List.getElem?_set_self, List.getElem?_set_ne, List.length_set, ne_eq, Nat.reduceEqDiff, not_false_eq_true, Nat.reduceLT, Nat.zero_ne_one, Nat.one_ne_zero, Nat.lt_add_one, Nat.zero_lt_succ, startD, List.map_cons, List.map_nil, List.length_cons, List.length_nil, List.cons_append, List.nil_append, Nat.reduceAdd, Nat.reduceSub, Nat.zero_add, List.replicate_succ, List.replicate_zero]
    rw [W_isLst e]
    have cl : 0 < ns.length := by simpa using c
    have ep : popM (.ref 1) h = some (.int (ns[ns.length - 1]'(by omega)), h.set 1 (.lst (ns.map D.int).dropLast)) := by
      simp only [popM, e, List.length_map]
      rw [List.getElem?_eq_getElem (by simp; omega)]
      simp
    rw [W_some ep]
    try simp only [W_seq, W_asg, W_set, W_V, WV_some, W_C, W_op, W_cmpT, W_isB, W_un, W_tru, W_andT, W_orT, W_notT, W_andV, W_orV, W_notV, W_ife, W_nil, W_cons, W_tup, W_lst, W_addI, W_subI, W_iaddI, W_negI, W_mulI, W_fdivI, W_modI, W_powI, W_cmpI, W_isB_bl, W_isNB, W_isN, W_isntB, W_isntN, W_eqI, W_neI, W_pass, W_brk, W_cont, W_drop, W_rt, W_rtN, W_ifS, W_gsNil, W_gsCons, W_gTup, W_aug, W_call, W_B, RtN_rt, RtN_nx, W_abs, W_intI, W_intB, W_noPart, W_part, W_sl, W_lm, W_lm0, W_iter, W_range1, W_range2, W_forE, W_revE, W_compE, W_yes, W_lenT, W_truB, W_truI, List.append_nil, List.getElem?_cons_zero, List.getElem?_cons_succ, List.set_cons_zero, List.set_cons_succ, List.getElem?_set_self, List.getElem?_set_ne, List.length_set, ne_eq, Nat.reduceEqDiff, not_false_eq_true, Nat.reduceLT, Nat.zero_ne_one, Nat.one_ne_zero, Nat.lt_add_one, Nat.zero_lt_succ, startD, List.map_cons, List.map_nil, List.length_cons, List.length_nil, List.cons_append, List.nil_append, Nat.reduceAdd, Nat.reduceSub, Nat.zero_add, List.replicate_succ, List.replicate_zero]
    refine ⟨hm, q _ _ (Int.emod_nonneg _ (by omega)) (Int.emod_lt_of_pos _ hm) ⟨by simp, fun i hi _ h1 => List.getElem?_set_ne (fun z => h1 z.symm), fun _ => ⟨ns.dropLast, ?_⟩⟩ ⟨ns.dropLast, ?_⟩⟩
    · rw [get_set e]; simp
    · rw [get_set e]; simp
  · simp only [c, decide_false, Bool.false_eq_true, if_false, W_seq, W_asg, W_set, W_V, WV_some, W_C, W_op, W_cmpT, W_isB, W_un, W_tru, W_andT, W_orT, W_notT, W_andV, W_orV, W_notV, W_ife, W_nil, W_cons, W_tup, W_lst, W_addI, W_subI, W_iaddI, W_negI, W_mulI, W_fdivI, W_modI, W_powI, W_cmpI, W_isB_bl, W_isNB, W_isN, W_isntB, W_isntN, W_eqI, W_neI, W_pass, W_brk, W_cont, W_drop, W_rt, W_rtN, W_ifS, W_gsNil, W_gsCons, W_gTup, W_aug, W_call, W_B, RtN_rt, RtN_nx, W_abs, W_intI, W_intB, W_noPart, W_part, W_sl, W_lm, W_lm0, W_iter, W_range1, W_range2, W_forE, W_revE, W_compE, W_yes, W_lenT, W_truB, W_truI, List.append_nil, List.getElem?_cons_zero, List.getElem?_cons_succ, List.set_cons_zero, List.set_cons_succ, List.getElem?_set_self, List.getElem?_set_ne, List.length_set, ne_eq, Nat.reduceEqDiff, not_false_eq_true, Nat.reduceLT, Nat.zero_ne_one, Nat.one_ne_zero, Nat.lt_add_one, Nat.zero_lt_succ, startD, List.map_cons, List.map_nil, List.length_cons, List.length_nil, List.cons_append, List.nil_append, Nat.reduceAdd, Nat.reduceSub, Nat.zero_add, List.replicate_succ, List.replicate_zero]
    exact q 0 h (Int.le_refl _) hm .refl ⟨ns, e⟩
/-! ### _law_plain, _law_same -/
theorem plain_law {w : Nat} (hw : 1 ≤ w) (hwl : w ≤ 1000) : ∀ (n d : Nat) (x : D) (p : PyData) (h : Hd), Rp 2 w h d x p → d ≤ n → 1 < h.length → W (F__law_plain n [x]) h fun y h' => Fr [] h h' ∧ Rp h.length (w + 1) h' (d + 1) y (pl p) := by
  intro n
  induction n with
  | zero => intro d x p h r hd _; obtain rfl : d = 0 := Nat.le_zero.mp hd; exact r.elim
  | succ n ih =>
    intro d x p h r hd h1
    obtain ⟨d, rfl⟩ : ∃ e, d = e + 1 := by
      cases d with
      | zero => exact r.elim
      | succ d => exact ⟨d, rfl⟩
    rw [F__law_plain]
    refine w_run rfl ?_
    have turn : ∀ {src : Src} (xs : List D) (ps : List PyData) (b : Bool) (Q : D → Hd → Prop), src.fuel = xs.length → All2 (Rp 2 w h d) xs ps → ps.length ≤ w → (∀ h' i, Fr [] h h' → src.item h' i = some xs[i]?) →
        (∀ h' y, Fr [] h h' → Rp h.length (w + 1) h' (d + 2) y (.list (.bool b :: pl.pls ps)) → Q y h') →
        W (compL src (gSet 1) xYes (xCall (F__law_plain n) [] (xCons (xV 1) xNil)) (h ++ [Cell.lst [.bl b]]).length (wipeD (startD 2 [x]) [1]) (src.fuel + 1) 0) (h ++ [Cell.lst [.bl b]] ++ [Cell.lst []]) fun y h2 => W (addM (.ref h.length) y) h2 Q := by
      intro src xs ps b Q hf ha hl hit hQ
      have hlen := ha.len
      have F0 : Fr [] h (h ++ [Cell.lst [.bl b]] ++ [Cell.lst []]) := Fr.push.trans .push
      refine w_compL (n := xs.length) (fun i h' => Fr [] (h ++ [Cell.lst [.bl b]]) h' ∧ ∃ ys, h'[h.length + 1]? = some (.lst ys) ∧ ys.length = i ∧ All2 (Rp (h.length + 2) (w + 1) h' (d + 1)) ys (pl.pls (ps.take i))) ?_ ?_ _ 0 _ (Nat.zero_le _) (by rw [hf]; omega) ⟨.push, [], by simp, rfl, by simp only [List.take_zero, pl.pls]; exact .nil⟩
      · rintro i h' hi ⟨F, ys, e, hy, a⟩
        have F1 : Fr [] h h' := Fr.push.trans F
        rcases Nat.lt_or_ge i xs.length with c | c
        · refine .inr ⟨c, xs[i], by rw [hit _ _ F1, List.getElem?_eq_getElem c], ?_⟩
          unfold TurnC
          try simp only [W_seq, W_asg, W_set, W_V, WV_some, W_C, W_op, W_cmpT, W_isB, W_un, W_tru, W_andT, W_orT, W_notT, W_andV, W_orV, W_notV, W_ife, W_nil, W_cons, W_tup, W_lst, W_addI, W_subI, W_iaddI, W_negI, W_mulI, W_fdivI, W_modI, W_powI, W_cmpI, W_isB_bl, W_isNB, W_isN, W_isntB, W_isntN, W_eqI, W_neI, W_pass, W_brk, W_cont, W_drop, W_rt, W_rtN, W_ifS, W_gsNil, W_gsCons, W_gTup, W_aug, W_call, W_B, RtN_rt, RtN_nx, W_abs, W_intI, W_intB, W_noPart, W_part, W_sl, W_lm, W_lm0, W_iter, W_range1, W_range2, W_forE, W_revE, W_compE, W_yes, W_lenT, W_truB, W_truI, List.append_nil, List.getElem?_cons_zero, List.getElem?_cons_succ, List.set_cons_zero, List.set_cons_succ, List.getElem?_set_self, List.getElem?_set_ne, List.length_set, ne_eq, Nat.reduceEqDiff, not_false_eq_true, Nat.reduceLT, Nat.zero_ne_one, Nat.one_ne_zero, Nat.lt_add_one, Nat.zero_lt_succ, startD, List.map_cons, List.map_nil, List.length_cons, List.length_nil, List.cons_append, List.nil_append, Nat.reduceAdd, Nat.reduceSub, Nat.zero_add, List.replicate_succ, List.replicate_zero, wipeD, if_true]
          have ri := (ha.get i c (by omega)).fr F1
          refine W.mono (ih d _ _ _ ri (by omega) (Nat.lt_of_lt_of_le h1 F1.le)) fun y h2 ⟨F2, ry⟩ => ?_
          have e2 := F2.keep e (by simp) (by omega)
          have FF : Fr [h.length + 1] h2 (h2.set (h.length + 1) (.lst (ys ++ [y]))) := .write (by simp) (by omega)
          have hl2 : h.length + 2 ≤ h'.length := by have := get_lt e; omega
          refine ⟨ys, by simpa using e2, by show ys.length < 1000000; omega, ?_⟩
          rw [show (h ++ [Cell.lst [D.bl b]]).length = h.length + 1 by simp]
          refine ⟨Fr.fresh (n := h.length + 1) ((F.trans F2).mono (fun _ _ z => by cases z) |>.trans FF) (by simp), ys ++ [y], get_set e2, by simp [hy], ?_⟩
          rw [pls_take _ _ (by omega)]
          refine All2.app (a.imp fun _ _ z => (z.fr F2).frS FF (by simp)) (.cons (Rp.frS FF (by simp) (ry.up hl2 (Nat.le_refl _) (Nat.le_refl _))) .nil)
        · exact .inl ⟨by omega, by rw [hit _ _ F1, List.getElem?_eq_none c]⟩
      · rintro h' ⟨F, ys, e, hy, a⟩
        have e1 : h'[h.length]? = some (.lst [.bl b]) := F.keep get_push (by simp) (by omega)
        rw [show (h ++ [Cell.lst [D.bl b]]).length = h.length + 1 by simp]
        rw [W_addL e1 e (by show _ ≤ 1000000; simp; omega)]
        refine hQ _ _ ((Fr.push.trans F).trans .push) ?_
        have hl' := get_lt e
        refine ⟨h'.length, [.bl b] ++ ys, rfl, ⟨by omega, by omega⟩, get_push, by simp [pls_len]; omega, .cons (show Rp h.length (w + 1) (h' ++ [Cell.lst ([D.bl b] ++ ys)]) (d + 1) (.bl b) (.bool b) from rfl) ?_⟩
        rw [hlen, List.take_length] at a
        exact a.imp fun _ _ z => (z.fr .push).up (by omega) (Nat.le_refl _) (Nat.le_refl _)
    cases p with
    | tuple ps =>
      obtain ⟨xs, rfl, hl, a⟩ := r
      try simp only [W_seq, W_asg, W_set, W_V, WV_some, W_C, W_op, W_cmpT, W_isB, W_un, W_tru, W_andT, W_orT, W_notT, W_andV, W_orV, W_notV, W_ife, W_nil, W_cons, W_tup, W_lst, W_addI, W_subI, W_iaddI, W_negI, W_mulI, W_fdivI, W_modI, W_powI, W_cmpI, W_isB_bl, W_isNB, W_isN, W_isntB, W_isntN, W_eqI, W_neI, W_pass, W_brk, W_cont, W_drop, W_rt, W_rtN, W_ifS, W_gsNil, W_gsCons, W_gTup, W_aug, W_call, W_B, RtN_rt, RtN_nx, W_abs, W_intI, W_intB, W_noPart, W_part, W_sl, W_lm, W_lm0, W_iter, W_range1, W_range2, W_forE, W_revE, W_compE, W_yes, W_lenT, W_truB, W_truI, List.append_nil, List.getElem?_cons_zero, List.getElem?_cons_succ, List.set_cons_zero, List.set_cons_succ, List.getElem?_set_self, List.getElem?_set_ne, List.length_set, ne_eq, Nat.reduceEqDiff, not_false_eq_true, Nat.reduceLT, Nat.zero_ne_one, Nat.one_ne_zero, Nat.lt_add_one, Nat.zero_lt_succ, startD, List.map_cons, List.map_nil, List.length_cons, List.length_nil, List.cons_append, List.nil_append, Nat.reduceAdd, Nat.reduceSub, Nat.zero_add, List.replicate_succ, List.replicate_zero]
      rw [W_isi (a := "tuple") rfl]
      try simp only [W_seq, W_asg, W_set, W_V, WV_some, W_C, W_op, W_cmpT, W_isB, W_un, W_tru, W_andT, W_orT, W_notT, W_andV, W_orV, W_notV, W_ife, W_nil, W_cons, W_tup, W_lst, W_addI, W_subI, W_iaddI, W_negI, W_mulI, W_fdivI, W_modI, W_powI, W_cmpI, W_isB_bl, W_isNB, W_isN, W_isntB, W_isntN, W_eqI, W_neI, W_pass, W_brk, W_cont, W_drop, W_rt, W_rtN, W_ifS, W_gsNil, W_gsCons, W_gTup, W_aug, W_call, W_B, RtN_rt, RtN_nx, W_abs, W_intI, W_intB, W_noPart, W_part, W_sl, W_lm, W_lm0, W_iter, W_range1, W_range2, W_forE, W_revE, W_compE, W_yes, W_lenT, W_truB, W_truI, List.append_nil, List.getElem?_cons_zero, List.getElem?_cons_succ, List.set_cons_zero, List.set_cons_succ, List.getElem?_set_self, List.getElem?_set_ne, List.length_set, ne_eq, Nat.reduceEqDiff, not_false_eq_true, Nat.reduceLT, Nat.zero_ne_one, Nat.one_ne_zero, Nat.lt_add_one, Nat.zero_lt_succ, startD, List.map_cons, List.map_nil, List.length_cons, List.length_nil, List.cons_append, List.nil_append, Nat.reduceAdd, Nat.reduceSub, Nat.zero_add, List.replicate_succ, List.replicate_zero, show (["tuple", "list"].any fun b => isaT "tuple" b) = true from by decide, if_true]
      rw [W_isi (a := "tuple") rfl]
      try simp only [W_seq, W_asg, W_set, W_V, WV_some, W_C, W_op, W_cmpT, W_isB, W_un, W_tru, W_andT, W_orT, W_notT, W_andV, W_orV, W_notV, W_ife, W_nil, W_cons, W_tup, W_lst, W_addI, W_subI, W_iaddI, W_negI, W_mulI, W_fdivI, W_modI, W_powI, W_cmpI, W_isB_bl, W_isNB, W_isN, W_isntB, W_isntN, W_eqI, W_neI, W_pass, W_brk, W_cont, W_drop, W_rt, W_rtN, W_ifS, W_gsNil, W_gsCons, W_gTup, W_aug, W_call, W_B, RtN_rt, RtN_nx, W_abs, W_intI, W_intB, W_noPart, W_part, W_sl, W_lm, W_lm0, W_iter, W_range1, W_range2, W_forE, W_revE, W_compE, W_yes, W_lenT, W_truB, W_truI, List.append_nil, List.getElem?_cons_zero, List.getElem?_cons_succ, List.set_cons_zero, List.set_cons_succ, List.getElem?_set_self, List.getElem?_set_ne, List.length_set, ne_eq, Nat.reduceEqDiff, not_false_eq_true, Nat.reduceLT, Nat.zero_ne_one, Nat.one_ne_zero, Nat.lt_add_one, Nat.zero_lt_succ, startD, List.map_cons, List.map_nil, List.length_cons, List.length_nil, List.cons_append, List.nil_append, Nat.reduceAdd, Nat.reduceSub, Nat.zero_add, List.replicate_succ, List.replicate_zero, show (["list"].any fun b => isaT "tuple" b) = false from by decide]
      refine ⟨by decide, ?_⟩
      try simp only [W_seq, W_asg, W_set, W_V, WV_some, W_C, W_op, W_cmpT, W_isB, W_un, W_tru, W_andT, W_orT, W_notT, W_andV, W_orV, W_notV, W_ife, W_nil, W_cons, W_tup, W_lst, W_addI, W_subI, W_iaddI, W_negI, W_mulI, W_fdivI, W_modI, W_powI, W_cmpI, W_isB_bl, W_isNB, W_isN, W_isntB, W_isntN, W_eqI, W_neI, W_pass, W_brk, W_cont, W_drop, W_rt, W_rtN, W_ifS, W_gsNil, W_gsCons, W_gTup, W_aug, W_call, W_B, RtN_rt, RtN_nx, W_abs, W_intI, W_intB, W_noPart, W_part, W_sl, W_lm, W_lm0, W_iter, W_range1, W_range2, W_forE, W_revE, W_compE, W_yes, W_lenT, W_truB, W_truI, List.append_nil, List.getElem?_cons_zero, List.getElem?_cons_succ, List.set_cons_zero, List.set_cons_succ, List.getElem?_set_self, List.getElem?_set_ne, List.length_set, ne_eq, Nat.reduceEqDiff, not_false_eq_true, Nat.reduceLT, Nat.zero_ne_one, Nat.one_ne_zero, Nat.lt_add_one, Nat.zero_lt_succ, startD, List.map_cons, List.map_nil, List.length_cons, List.length_nil, List.cons_append, List.nil_append, Nat.reduceAdd, Nat.reduceSub, Nat.zero_add, List.replicate_succ, List.replicate_zero]
      rw [W_srcTp]
      exact turn (src := srcTp xs) xs ps false _ rfl a hl (fun h' i F => rfl) fun h' y F r => ⟨F, r⟩
    | list ps =>
      obtain ⟨n, xs, rfl, h2, e, hl, a⟩ := r
      try simp only [W_seq, W_asg, W_set, W_V, WV_some, W_C, W_op, W_cmpT, W_isB, W_un, W_tru, W_andT, W_orT, W_notT, W_andV, W_orV, W_notV, W_ife, W_nil, W_cons, W_tup, W_lst, W_addI, W_subI, W_iaddI, W_negI, W_mulI, W_fdivI, W_modI, W_powI, W_cmpI, W_isB_bl, W_isNB, W_isN, W_isntB, W_isntN, W_eqI, W_neI, W_pass, W_brk, W_cont, W_drop, W_rt, W_rtN, W_ifS, W_gsNil, W_gsCons, W_gTup, W_aug, W_call, W_B, RtN_rt, RtN_nx, W_abs, W_intI, W_intB, W_noPart, W_part, W_sl, W_lm, W_lm0, W_iter, W_range1, W_range2, W_forE, W_revE, W_compE, W_yes, W_lenT, W_truB, W_truI, List.append_nil, List.getElem?_cons_zero, List.getElem?_cons_succ, List.set_cons_zero, List.set_cons_succ, List.getElem?_set_self, List.getElem?_set_ne, List.length_set, ne_eq, Nat.reduceEqDiff, not_false_eq_true, Nat.reduceLT, Nat.zero_ne_one, Nat.one_ne_zero, Nat.lt_add_one, Nat.zero_lt_succ, startD, List.map_cons, List.map_nil, List.length_cons, List.length_nil, List.cons_append, List.nil_append, Nat.reduceAdd, Nat.reduceSub, Nat.zero_add, List.replicate_succ, List.replicate_zero]
      have ty : tyD h (.ref n) = some "list" := by simp only [tyD, e]
      rw [W_isi ty]
      try simp only [W_seq, W_asg, W_set, W_V, WV_some, W_C, W_op, W_cmpT, W_isB, W_un, W_tru, W_andT, W_orT, W_notT, W_andV, W_orV, W_notV, W_ife, W_nil, W_cons, W_tup, W_lst, W_addI, W_subI, W_iaddI, W_negI, W_mulI, W_fdivI, W_modI, W_powI, W_cmpI, W_isB_bl, W_isNB, W_isN, W_isntB, W_isntN, W_eqI, W_neI, W_pass, W_brk, W_cont, W_drop, W_rt, W_rtN, W_ifS, W_gsNil, W_gsCons, W_gTup, W_aug, W_call, W_B, RtN_rt, RtN_nx, W_abs, W_intI, W_intB, W_noPart, W_part, W_sl, W_lm, W_lm0, W_iter, W_range1, W_range2, W_forE, W_revE, W_compE, W_yes, W_lenT, W_truB, W_truI, List.append_nil, List.getElem?_cons_zero, List.getElem?_cons_succ, List.set_cons_zero, List.set_cons_succ, List.getElem?_set_self, List.getElem?_set_ne, List.length_set, ne_eq, Nat.reduceEqDiff, not_false_eq_true, Nat.reduceLT, Nat.zero_ne_one, Nat.one_ne_zero, Nat.lt_add_one, Nat.zero_lt_succ, startD, List.map_cons, List.map_nil, List.length_cons, List.length_nil, List.cons_append, List.nil_append, Nat.reduceAdd, Nat.reduceSub, Nat.zero_add, List.replicate_succ, List.replicate_zero, show (["tuple", "list"].any fun b => isaT "list" b) = true from by decide, if_true]
      rw [W_isi ty]
      try simp only [W_seq, W_asg, W_set, W_V, WV_some, W_C, W_op, W_cmpT, W_isB, W_un, W_tru, W_andT, W_orT, W_notT, W_andV, W_orV, W_notV, W_ife, W_nil, W_cons, W_tup, W_lst, W_addI, W_subI, W_iaddI, W_negI, W_mulI, W_fdivI, W_modI, W_powI, W_cmpI, W_isB_bl, W_isNB, W_isN, W_isntB, W_isntN, W_eqI, W_neI, W_pass, W_brk, W_cont, W_drop, W_rt, W_rtN, W_ifS, W_gsNil, W_gsCons, W_gTup, W_aug, W_call, W_B, RtN_rt, RtN_nx, W_abs, W_intI, W_intB, W_noPart, W_part, W_sl, W_lm, W_lm0, W_iter, W_range1, W_range2, W_forE, W_revE, W_compE, W_yes, W_lenT, W_truB, W_truI, List.append_nil, List.getElem?_cons_zero, List.getElem?_cons_succ, List.set_cons_zero, List.set_cons_succ, List.getElem?_set_self, List.getElem?_set_ne, List.length_set, ne_eq, Nat.reduceEqDiff, not_false_eq_true, Nat.reduceLT, Nat.zero_ne_one, Nat.one_ne_zero, Nat.lt_add_one, Nat.zero_lt_succ, startD, List.map_cons, List.map_nil, List.length_cons, List.length_nil, List.cons_append, List.nil_append, Nat.reduceAdd, Nat.reduceSub, Nat.zero_add, List.replicate_succ, List.replicate_zero, show (["list"].any fun b => isaT "list" b) = true from by decide]
      refine ⟨by decide, ?_⟩
      try simp only [W_seq, W_asg, W_set, W_V, WV_some, W_C, W_op, W_cmpT, W_isB, W_un, W_tru, W_andT, W_orT, W_notT, W_andV, W_orV, W_notV, W_ife, W_nil, W_cons, W_tup, W_lst, W_addI, W_subI, W_iaddI, W_negI, W_mulI, W_fdivI, W_modI, W_powI, W_cmpI, W_isB_bl, W_isNB, W_isN, W_isntB, W_isntN, W_eqI, W_neI, W_pass, W_brk, W_cont, W_drop, W_rt, W_rtN, W_ifS, W_gsNil, W_gsCons, W_gTup, W_aug, W_call, W_B, RtN_rt, RtN_nx, W_abs, W_intI, W_intB, W_noPart, W_part, W_sl, W_lm, W_lm0, W_iter, W_range1, W_range2, W_forE, W_revE, W_compE, W_yes, W_lenT, W_truB, W_truI, List.append_nil, List.getElem?_cons_zero, List.getElem?_cons_succ, List.set_cons_zero, List.set_cons_succ, List.getElem?_set_self, List.getElem?_set_ne, List.length_set, ne_eq, Nat.reduceEqDiff, not_false_eq_true, Nat.reduceLT, Nat.zero_ne_one, Nat.one_ne_zero, Nat.lt_add_one, Nat.zero_lt_succ, startD, List.map_cons, List.map_nil, List.length_cons, List.length_nil, List.cons_append, List.nil_append, Nat.reduceAdd, Nat.reduceSub, Nat.zero_add, List.replicate_succ, List.replicate_zero]
      rw [W_srcL (get_pushL e)]
      exact turn (src := srcLst n xs.length) xs ps true _ rfl a hl (fun h' i F => by simp only [srcLst, Dt.listOf, F.keep e (by simp) h2.2]) fun h' y F r => ⟨F, r⟩
    | none =>
      obtain rfl := r
      try simp only [W_seq, W_asg, W_set, W_V, WV_some, W_C, W_op, W_cmpT, W_isB, W_un, W_tru, W_andT, W_orT, W_notT, W_andV, W_orV, W_notV, W_ife, W_nil, W_cons, W_tup, W_lst, W_addI, W_subI, W_iaddI, W_negI, W_mulI, W_fdivI, W_modI, W_powI, W_cmpI, W_isB_bl, W_isNB, W_isN, W_isntB, W_isntN, W_eqI, W_neI, W_pass, W_brk, W_cont, W_drop, W_rt, W_rtN, W_ifS, W_gsNil, W_gsCons, W_gTup, W_aug, W_call, W_B, RtN_rt, RtN_nx, W_abs, W_intI, W_intB, W_noPart, W_part, W_sl, W_lm, W_lm0, W_iter, W_range1, W_range2, W_forE, W_revE, W_compE, W_yes, W_lenT, W_truB, W_truI, List.append_nil, List.getElem?_cons_zero, List.getElem?_cons_succ, List.set_cons_zero, List.set_cons_succ, List.getElem?_set_self, List.getElem?_set_ne, List.length_set, ne_eq, Nat.reduceEqDiff, not_false_eq_true, Nat.reduceLT, Nat.zero_ne_one, Nat.one_ne_zero, Nat.lt_add_one, Nat.zero_lt_succ, startD, List.map_cons, List.map_nil, List.length_cons, List.length_nil, List.cons_append, List.nil_append, Nat.reduceAdd, Nat.reduceSub, Nat.zero_add, List.replicate_succ, List.replicate_zero]
      rw [W_isi (a := "NoneType") rfl]
      try simp only [W_seq, W_asg, W_set, W_V, WV_some, W_C, W_op, W_cmpT, W_isB, W_un, W_tru, W_andT, W_orT, W_notT, W_andV, W_orV, W_notV, W_ife, W_nil, W_cons, W_tup, W_lst, W_addI, W_subI, W_iaddI, W_negI, W_mulI, W_fdivI, W_modI, W_powI, W_cmpI, W_isB_bl, W_isNB, W_isN, W_isntB, W_isntN, W_eqI, W_neI, W_pass, W_brk, W_cont, W_drop, W_rt, W_rtN, W_ifS, W_gsNil, W_gsCons, W_gTup, W_aug, W_call, W_B, RtN_rt, RtN_nx, W_abs, W_intI, W_intB, W_noPart, W_part, W_sl, W_lm, W_lm0, W_iter, W_range1, W_range2, W_forE, W_revE, W_compE, W_yes, W_lenT, W_truB, W_truI, List.append_nil, List.getElem?_cons_zero, List.getElem?_cons_succ, List.set_cons_zero, List.set_cons_succ, List.getElem?_set_self, List.getElem?_set_ne, List.length_set, ne_eq, Nat.reduceEqDiff, not_false_eq_true, Nat.reduceLT, Nat.zero_ne_one, Nat.one_ne_zero, Nat.lt_add_one, Nat.zero_lt_succ, startD, List.map_cons, List.map_nil, List.length_cons, List.length_nil, List.cons_append, List.nil_append, Nat.reduceAdd, Nat.reduceSub, Nat.zero_add, List.replicate_succ, List.replicate_zero, show (["tuple", "list"].any fun b => isaT "NoneType" b) = false from by decide, Bool.false_eq_true, if_false, isNonD, if_true]
      refine ⟨by decide, ?_⟩
      try simp only [W_seq, W_asg, W_set, W_V, WV_some, W_C, W_op, W_cmpT, W_isB, W_un, W_tru, W_andT, W_orT, W_notT, W_andV, W_orV, W_notV, W_ife, W_nil, W_cons, W_tup, W_lst, W_addI, W_subI, W_iaddI, W_negI, W_mulI, W_fdivI, W_modI, W_powI, W_cmpI, W_isB_bl, W_isNB, W_isN, W_isntB, W_isntN, W_eqI, W_neI, W_pass, W_brk, W_cont, W_drop, W_rt, W_rtN, W_ifS, W_gsNil, W_gsCons, W_gTup, W_aug, W_call, W_B, RtN_rt, RtN_nx, W_abs, W_intI, W_intB, W_noPart, W_part, W_sl, W_lm, W_lm0, W_iter, W_range1, W_range2, W_forE, W_revE, W_compE, W_yes, W_lenT, W_truB, W_truI, List.append_nil, List.getElem?_cons_zero, List.getElem?_cons_succ, List.set_cons_zero, List.set_cons_succ, List.getElem?_set_self, List.getElem?_set_ne, List.length_set, ne_eq, Nat.reduceEqDiff, not_false_eq_true, Nat.reduceLT, Nat.zero_ne_one, Nat.one_ne_zero, Nat.lt_add_one, Nat.zero_lt_succ, startD, List.map_cons, List.map_nil, List.length_cons, List.length_nil, List.cons_append, List.nil_append, Nat.reduceAdd, Nat.reduceSub, Nat.zero_add, List.replicate_succ, List.replicate_zero, isNonD, if_true]
      rw [W_ixL (d := .str "None") get_push rfl]
      try simp only [W_seq, W_asg, W_set, W_V, WV_some, W_C, W_op, W_cmpT, W_isB, W_un, W_tru, W_andT, W_orT, W_notT, W_andV, W_orV, W_notV, W_ife, W_nil, W_cons, W_tup, W_lst, W_addI, W_subI, W_iaddI, W_negI, W_mulI, W_fdivI, W_modI, W_powI, W_cmpI, W_isB_bl, W_isNB, W_isN, W_isntB, W_isntN, W_eqI, W_neI, W_pass, W_brk, W_cont, W_drop, W_rt, W_rtN, W_ifS, W_gsNil, W_gsCons, W_gTup, W_aug, W_call, W_B, RtN_rt, RtN_nx, W_abs, W_intI, W_intB, W_noPart, W_part, W_sl, W_lm, W_lm0, W_iter, W_range1, W_range2, W_forE, W_revE, W_compE, W_yes, W_lenT, W_truB, W_truI, List.append_nil, List.getElem?_cons_zero, List.getElem?_cons_succ, List.set_cons_zero, List.set_cons_succ, List.getElem?_set_self, List.getElem?_set_ne, List.length_set, ne_eq, Nat.reduceEqDiff, not_false_eq_true, Nat.reduceLT, Nat.zero_ne_one, Nat.one_ne_zero, Nat.lt_add_one, Nat.zero_lt_succ, startD, List.map_cons, List.map_nil, List.length_cons, List.length_nil, List.cons_append, List.nil_append, Nat.reduceAdd, Nat.reduceSub, Nat.zero_add, List.replicate_succ, List.replicate_zero]
      exact ⟨.push, "None", rfl, rfl⟩
    | bool b =>
      obtain rfl := r
      try simp only [W_seq, W_asg, W_set, W_V, WV_some, W_C, W_op, W_cmpT, W_isB, W_un, W_tru, W_andT, W_orT, W_notT, W_andV, W_orV, W_notV, W_ife, W_nil, W_cons, W_tup, W_lst, W_addI, W_subI, W_iaddI, W_negI, W_mulI, W_fdivI, W_modI, W_powI, W_cmpI, W_isB_bl, W_isNB, W_isN, W_isntB, W_isntN, W_eqI, W_neI, W_pass, W_brk, W_cont, W_drop, W_rt, W_rtN, W_ifS, W_gsNil, W_gsCons, W_gTup, W_aug, W_call, W_B, RtN_rt, RtN_nx, W_abs, W_intI, W_intB, W_noPart, W_part, W_sl, W_lm, W_lm0, W_iter, W_range1, W_range2, W_forE, W_revE, W_compE, W_yes, W_lenT, W_truB, W_truI, List.append_nil, List.getElem?_cons_zero, List.getElem?_cons_succ, List.set_cons_zero, List.set_cons_succ, List.getElem?_set_self, List.getElem?_set_ne, List.length_set, ne_eq, Nat.reduceEqDiff, not_false_eq_true, Nat.reduceLT, Nat.zero_ne_one, Nat.one_ne_zero, Nat.lt_add_one, Nat.zero_lt_succ, startD, List.map_cons, List.map_nil, List.length_cons, List.length_nil, List.cons_append, List.nil_append, Nat.reduceAdd, Nat.reduceSub, Nat.zero_add, List.replicate_succ, List.replicate_zero]
      rw [W_isi (a := "bool") rfl]
      try simp only [W_seq, W_asg, W_set, W_V, WV_some, W_C, W_op, W_cmpT, W_isB, W_un, W_tru, W_andT, W_orT, W_notT, W_andV, W_orV, W_notV, W_ife, W_nil, W_cons, W_tup, W_lst, W_addI, W_subI, W_iaddI, W_negI, W_mulI, W_fdivI, W_modI, W_powI, W_cmpI, W_isB_bl, W_isNB, W_isN, W_isntB, W_isntN, W_eqI, W_neI, W_pass, W_brk, W_cont, W_drop, W_rt, W_rtN, W_ifS, W_gsNil, W_gsCons, W_gTup, W_aug, W_call, W_B, RtN_rt, RtN_nx, W_abs, W_intI, W_intB, W_noPart, W_part, W_sl, W_lm, W_lm0, W_iter, W_range1, W_range2, W_forE, W_revE, W_compE, W_yes, W_lenT, W_truB, W_truI, List.append_nil, List.getElem?_cons_zero, List.getElem?_cons_succ, List.set_cons_zero, List.set_cons_succ, List.getElem?_set_self, List.getElem?_set_ne, List.length_set, ne_eq, Nat.reduceEqDiff, not_false_eq_true, Nat.reduceLT, Nat.zero_ne_one, Nat.one_ne_zero, Nat.lt_add_one, Nat.zero_lt_succ, startD, List.map_cons, List.map_nil, List.length_cons, List.length_nil, List.cons_append, List.nil_append, Nat.reduceAdd, Nat.reduceSub, Nat.zero_add, List.replicate_succ, List.replicate_zero, show (["tuple", "list"].any fun b => isaT "bool" b) = false from by decide, Bool.false_eq_true, if_false, isNonD, if_true]
      rw [W_isi (a := "bool") rfl]
      try simp only [W_seq, W_asg, W_set, W_V, WV_some, W_C, W_op, W_cmpT, W_isB, W_un, W_tru, W_andT, W_orT, W_notT, W_andV, W_orV, W_notV, W_ife, W_nil, W_cons, W_tup, W_lst, W_addI, W_subI, W_iaddI, W_negI, W_mulI, W_fdivI, W_modI, W_powI, W_cmpI, W_isB_bl, W_isNB, W_isN, W_isntB, W_isntN, W_eqI, W_neI, W_pass, W_brk, W_cont, W_drop, W_rt, W_rtN, W_ifS, W_gsNil, W_gsCons, W_gTup, W_aug, W_call, W_B, RtN_rt, RtN_nx, W_abs, W_intI, W_intB, W_noPart, W_part, W_sl, W_lm, W_lm0, W_iter, W_range1, W_range2, W_forE, W_revE, W_compE, W_yes, W_lenT, W_truB, W_truI, List.append_nil, List.getElem?_cons_zero, List.getElem?_cons_succ, List.set_cons_zero, List.set_cons_succ, List.getElem?_set_self, List.getElem?_set_ne, List.length_set, ne_eq, Nat.reduceEqDiff, not_false_eq_true, Nat.reduceLT, Nat.zero_ne_one, Nat.one_ne_zero, Nat.lt_add_one, Nat.zero_lt_succ, startD, List.map_cons, List.map_nil, List.length_cons, List.length_nil, List.cons_append, List.nil_append, Nat.reduceAdd, Nat.reduceSub, Nat.zero_add, List.replicate_succ, List.replicate_zero, show (["bool"].any fun b => isaT "bool" b) = true from by decide, if_true, isNonD]
      refine ⟨by decide, ?_⟩
      try simp only [W_seq, W_asg, W_set, W_V, WV_some, W_C, W_op, W_cmpT, W_isB, W_un, W_tru, W_andT, W_orT, W_notT, W_andV, W_orV, W_notV, W_ife, W_nil, W_cons, W_tup, W_lst, W_addI, W_subI, W_iaddI, W_negI, W_mulI, W_fdivI, W_modI, W_powI, W_cmpI, W_isB_bl, W_isNB, W_isN, W_isntB, W_isntN, W_eqI, W_neI, W_pass, W_brk, W_cont, W_drop, W_rt, W_rtN, W_ifS, W_gsNil, W_gsCons, W_gTup, W_aug, W_call, W_B, RtN_rt, RtN_nx, W_abs, W_intI, W_intB, W_noPart, W_part, W_sl, W_lm, W_lm0, W_iter, W_range1, W_range2, W_forE, W_revE, W_compE, W_yes, W_lenT, W_truB, W_truI, List.append_nil, List.getElem?_cons_zero, List.getElem?_cons_succ, List.set_cons_zero, List.set_cons_succ, List.getElem?_set_self, List.getElem?_set_ne, List.length_set, ne_eq, Nat.reduceEqDiff, not_false_eq_true, Nat.reduceLT, Nat.zero_ne_one, Nat.one_ne_zero, Nat.lt_add_one, Nat.zero_lt_succ, startD, List.map_cons, List.map_nil, List.length_cons, List.length_nil, List.cons_append, List.nil_append, Nat.reduceAdd, Nat.reduceSub, Nat.zero_add, List.replicate_succ, List.replicate_zero, isNonD, if_true]
      cases b
      · rw [W_ixL (d := .str "False") get_push rfl]
        try simp only [W_seq, W_asg, W_set, W_V, WV_some, W_C, W_op, W_cmpT, W_isB, W_un, W_tru, W_andT, W_orT, W_notT, W_andV, W_orV, W_notV, W_ife, W_nil, W_cons, W_tup, W_lst, W_addI, W_subI, W_iaddI, W_negI, W_mulI, W_fdivI, W_modI, W_powI, W_cmpI, W_isB_bl, W_isNB, W_isN, W_isntB, W_isntN, W_eqI, W_neI, W_pass, W_brk, W_cont, W_drop, W_rt, W_rtN, W_ifS, W_gsNil, W_gsCons, W_gTup, W_aug, W_call, W_B, RtN_rt, RtN_nx, W_abs, W_intI, W_intB, W_noPart, W_part, W_sl, W_lm, W_lm0, W_iter, W_range1, W_range2, W_forE, W_revE, W_compE, W_yes, W_lenT, W_truB, W_truI, List.append_nil, List.getElem?_cons_zero, List.getElem?_cons_succ, List.set_cons_zero, List.set_cons_succ, List.getElem?_set_self, List.getElem?_set_ne, List.length_set, ne_eq, Nat.reduceEqDiff, not_false_eq_true, Nat.reduceLT, Nat.zero_ne_one, Nat.one_ne_zero, Nat.lt_add_one, Nat.zero_lt_succ, startD, List.map_cons, List.map_nil, List.length_cons, List.length_nil, List.cons_append, List.nil_append, Nat.reduceAdd, Nat.reduceSub, Nat.zero_add, List.replicate_succ, List.replicate_zero]
        exact ⟨.push, "False", rfl, rfl⟩
      · rw [W_ixL (d := .str "True") get_push rfl]
        try simp only [W_seq, W_asg, W_set, W_V, WV_some, W_C, W_op, W_cmpT, W_isB, W_un, W_tru, W_andT, W_orT, W_notT, W_andV, W_orV, W_notV, W_ife, W_nil, W_cons, W_tup, W_lst, W_addI, W_subI, W_iaddI, W_negI, W_mulI, W_fdivI, W_modI, W_powI, W_cmpI, W_isB_bl, W_isNB, W_isN, W_isntB, W_isntN, W_eqI, W_neI, W_pass, W_brk, W_cont, W_drop, W_rt, W_rtN, W_ifS, W_gsNil, W_gsCons, W_gTup, W_aug, W_call, W_B, RtN_rt, RtN_nx, W_abs, W_intI, W_intB, W_noPart, W_part, W_sl, W_lm, W_lm0, W_iter, W_range1, W_range2, W_forE, W_revE, W_compE, W_yes, W_lenT, W_truB, W_truI, List.append_nil, List.getElem?_cons_zero, List.getElem?_cons_succ, List.set_cons_zero, List.set_cons_succ, List.getElem?_set_self, List.getElem?_set_ne, List.length_set, ne_eq, Nat.reduceEqDiff, not_false_eq_true, Nat.reduceLT, Nat.zero_ne_one, Nat.one_ne_zero, Nat.lt_add_one, Nat.zero_lt_succ, startD, List.map_cons, List.map_nil, List.length_cons, List.length_nil, List.cons_append, List.nil_append, Nat.reduceAdd, Nat.reduceSub, Nat.zero_add, List.replicate_succ, List.replicate_zero]
        exact ⟨.push, "True", rfl, rfl⟩
    | int i =>
      obtain rfl := r
      try simp only [W_seq, W_asg, W_set, W_V, WV_some, W_C, W_op, W_cmpT, W_isB, W_un, W_tru, W_andT, W_orT, W_notT, W_andV, W_orV, W_notV, W_ife, W_nil, W_cons, W_tup, W_lst, W_addI, W_subI, W_iaddI, W_negI, W_mulI, W_fdivI, W_modI, W_powI, W_cmpI, W_isB_bl, W_isNB, W_isN, W_isntB, W_isntN, W_eqI, W_neI, W_pass, W_brk, W_cont, W_drop, W_rt, W_rtN, W_ifS, W_gsNil, W_gsCons, W_gTup, W_aug, W_call, W_B, RtN_rt, RtN_nx, W_abs, W_intI, W_intB, W_noPart, W_part, W_sl, W_lm, W_lm0, W_iter, W_range1, W_range2, W_forE, W_revE, W_compE, W_yes, W_lenT, W_truB, W_truI, List.append_nil, List.getElem?_cons_zero, List.getElem?_cons_succ, List.set_cons_zero, List.set_cons_succ, List.getElem?_set_self, List.getElem?_set_ne, List.length_set, ne_eq, Nat.reduceEqDiff, not_false_eq_true, Nat.reduceLT, Nat.zero_ne_one, Nat.one_ne_zero, Nat.lt_add_one, Nat.zero_lt_succ, startD, List.map_cons, List.map_nil, List.length_cons, List.length_nil, List.cons_append, List.nil_append, Nat.reduceAdd, Nat.reduceSub, Nat.zero_add, List.replicate_succ, List.replicate_zero]
      rw [W_isi (a := "int") rfl]
      try simp only [W_seq, W_asg, W_set, W_V, WV_some, W_C, W_op, W_cmpT, W_isB, W_un, W_tru, W_andT, W_orT, W_notT, W_andV, W_orV, W_notV, W_ife, W_nil, W_cons, W_tup, W_lst, W_addI, W_subI, W_iaddI, W_negI, W_mulI, W_fdivI, W_modI, W_powI, W_cmpI, W_isB_bl, W_isNB, W_isN, W_isntB, W_isntN, W_eqI, W_neI, W_pass, W_brk, W_cont, W_drop, W_rt, W_rtN, W_ifS, W_gsNil, W_gsCons, W_gTup, W_aug, W_call, W_B, RtN_rt, RtN_nx, W_abs, W_intI, W_intB, W_noPart, W_part, W_sl, W_lm, W_lm0, W_iter, W_range1, W_range2, W_forE, W_revE, W_compE, W_yes, W_lenT, W_truB, W_truI, List.append_nil, List.getElem?_cons_zero, List.getElem?_cons_succ, List.set_cons_zero, List.set_cons_succ, List.getElem?_set_self, List.getElem?_set_ne, List.length_set, ne_eq, Nat.reduceEqDiff, not_false_eq_true, Nat.reduceLT, Nat.zero_ne_one, Nat.one_ne_zero, Nat.lt_add_one, Nat.zero_lt_succ, startD, List.map_cons, List.map_nil, List.length_cons, List.length_nil, List.cons_append, List.nil_append, Nat.reduceAdd, Nat.reduceSub, Nat.zero_add, List.replicate_succ, List.replicate_zero, show (["tuple", "list"].any fun b => isaT "int" b) = false from by decide, Bool.false_eq_true, if_false, isNonD, if_true]
      rw [W_isi (a := "int") rfl]
      try simp only [W_seq, W_asg, W_set, W_V, WV_some, W_C, W_op, W_cmpT, W_isB, W_un, W_tru, W_andT, W_orT, W_notT, W_andV, W_orV, W_notV, W_ife, W_nil, W_cons, W_tup, W_lst, W_addI, W_subI, W_iaddI, W_negI, W_mulI, W_fdivI, W_modI, W_powI, W_cmpI, W_isB_bl, W_isNB, W_isN, W_isntB, W_isntN, W_eqI, W_neI, W_pass, W_brk, W_cont, W_drop, W_rt, W_rtN, W_ifS, W_gsNil, W_gsCons, W_gTup, W_aug, W_call, W_B, RtN_rt, RtN_nx, W_abs, W_intI, W_intB, W_noPart, W_part, W_sl, W_lm, W_lm0, W_iter, W_range1, W_range2, W_forE, W_revE, W_compE, W_yes, W_lenT, W_truB, W_truI, List.append_nil, List.getElem?_cons_zero, List.getElem?_cons_succ, List.set_cons_zero, List.set_cons_succ, List.getElem?_set_self, List.getElem?_set_ne, List.length_set, ne_eq, Nat.reduceEqDiff, not_false_eq_true, Nat.reduceLT, Nat.zero_ne_one, Nat.one_ne_zero, Nat.lt_add_one, Nat.zero_lt_succ, startD, List.map_cons, List.map_nil, List.length_cons, List.length_nil, List.cons_append, List.nil_append, Nat.reduceAdd, Nat.reduceSub, Nat.zero_add, List.replicate_succ, List.replicate_zero, show (["bool"].any fun b => isaT "int" b) = false from by decide, if_false, isNonD, Bool.false_eq_true]
      rw [W_isi (a := "int") rfl]
      try simp only [W_seq, W_asg, W_set, W_V, WV_some, W_C, W_op, W_cmpT, W_isB, W_un, W_tru, W_andT, W_orT, W_notT, W_andV, W_orV, W_notV, W_ife, W_nil, W_cons, W_tup, W_lst, W_addI, W_subI, W_iaddI, W_negI, W_mulI, W_fdivI, W_modI, W_powI, W_cmpI, W_isB_bl, W_isNB, W_isN, W_isntB, W_isntN, W_eqI, W_neI, W_pass, W_brk, W_cont, W_drop, W_rt, W_rtN, W_ifS, W_gsNil, W_gsCons, W_gTup, W_aug, W_call, W_B, RtN_rt, RtN_nx, W_abs, W_intI, W_intB, W_noPart, W_part, W_sl, W_lm, W_lm0, W_iter, W_range1, W_range2, W_forE, W_revE, W_compE, W_yes, W_lenT, W_truB, W_truI, List.append_nil, List.getElem?_cons_zero, List.getElem?_cons_succ, List.set_cons_zero, List.set_cons_succ, List.getElem?_set_self, List.getElem?_set_ne, List.length_set, ne_eq, Nat.reduceEqDiff, not_false_eq_true, Nat.reduceLT, Nat.zero_ne_one, Nat.one_ne_zero, Nat.lt_add_one, Nat.zero_lt_succ, startD, List.map_cons, List.map_nil, List.length_cons, List.length_nil, List.cons_append, List.nil_append, Nat.reduceAdd, Nat.reduceSub, Nat.zero_add, List.replicate_succ, List.replicate_zero, show (["int", "str"].any fun b => isaT "int" b) = true from by decide, if_true]
      rw [W_isi (a := "int") rfl]
      try simp only [W_seq, W_asg, W_set, W_V, WV_some, W_C, W_op, W_cmpT, W_isB, W_un, W_tru, W_andT, W_orT, W_notT, W_andV, W_orV, W_notV, W_ife, W_nil, W_cons, W_tup, W_lst, W_addI, W_subI, W_iaddI, W_negI, W_mulI, W_fdivI, W_modI, W_powI, W_cmpI, W_isB_bl, W_isNB, W_isN, W_isntB, W_isntN, W_eqI, W_neI, W_pass, W_brk, W_cont, W_drop, W_rt, W_rtN, W_ifS, W_gsNil, W_gsCons, W_gTup, W_aug, W_call, W_B, RtN_rt, RtN_nx, W_abs, W_intI, W_intB, W_noPart, W_part, W_sl, W_lm, W_lm0, W_iter, W_range1, W_range2, W_forE, W_revE, W_compE, W_yes, W_lenT, W_truB, W_truI, List.append_nil, List.getElem?_cons_zero, List.getElem?_cons_succ, List.set_cons_zero, List.set_cons_succ, List.getElem?_set_self, List.getElem?_set_ne, List.length_set, ne_eq, Nat.reduceEqDiff, not_false_eq_true, Nat.reduceLT, Nat.zero_ne_one, Nat.one_ne_zero, Nat.lt_add_one, Nat.zero_lt_succ, startD, List.map_cons, List.map_nil, List.length_cons, List.length_nil, List.cons_append, List.nil_append, Nat.reduceAdd, Nat.reduceSub, Nat.zero_add, List.replicate_succ, List.replicate_zero, show (["str"].any fun b => isaT "int" b) = false from by decide, if_true]
      refine ⟨by decide, .push, h.length, _, rfl, ⟨Nat.le_refl _, by omega⟩, get_push, by simp; omega, .cons rfl (.cons rfl .nil)⟩
    | str s =>
      obtain ⟨t, rfl, rfl⟩ := r
      try simp only [W_seq, W_asg, W_set, W_V, WV_some, W_C, W_op, W_cmpT, W_isB, W_un, W_tru, W_andT, W_orT, W_notT, W_andV, W_orV, W_notV, W_ife, W_nil, W_cons, W_tup, W_lst, W_addI, W_subI, W_iaddI, W_negI, W_mulI, W_fdivI, W_modI, W_powI, W_cmpI, W_isB_bl, W_isNB, W_isN, W_isntB, W_isntN, W_eqI, W_neI, W_pass, W_brk, W_cont, W_drop, W_rt, W_rtN, W_ifS, W_gsNil, W_gsCons, W_gTup, W_aug, W_call, W_B, RtN_rt, RtN_nx, W_abs, W_intI, W_intB, W_noPart, W_part, W_sl, W_lm, W_lm0, W_iter, W_range1, W_range2, W_forE, W_revE, W_compE, W_yes, W_lenT, W_truB, W_truI, List.append_nil, List.getElem?_cons_zero, List.getElem?_cons_succ, List.set_cons_zero, List.set_cons_succ, List.getElem?_set_self, List.getElem?_set_ne, List.length_set, ne_eq, Nat.reduceEqDiff, not_false_eq_true, Nat.reduceLT, Nat.zero_ne_one, Nat.one_ne_zero, Nat.lt_add_one, Nat.zero_lt_succ, startD, List.map_cons, List.map_nil, List.length_cons, List.length_nil, List.cons_append, List.nil_append, Nat.reduceAdd, Nat.reduceSub, Nat.zero_add, List.replicate_succ, List.replicate_zero]
      rw [W_isi (a := "str") rfl]
      try simp only [W_seq, W_asg, W_set, W_V, WV_some, W_C, W_op, W_cmpT, W_isB, W_un, W_tru, W_andT, W_orT, W_notT, W_andV, W_orV, W_notV, W_ife, W_nil, W_cons, W_tup, W_lst, W_addI, W_subI, W_iaddI, W_negI, W_mulI, W_fdivI, W_modI, W_powI, W_cmpI, W_isB_bl, W_isNB, W_isN, W_isntB, W_isntN, W_eqI, W_neI, W_pass, W_brk, W_cont, W_drop, W_rt, W_rtN, W_ifS, W_gsNil, W_gsCons, W_gTup, W_aug, W_call, W_B, RtN_rt, RtN_nx, W_abs, W_intI, W_intB, W_noPart, W_part, W_sl, W_lm, W_lm0, W_iter, W_range1, W_range2, W_forE, W_revE, W_compE, W_yes, W_lenT, W_truB, W_truI, List.append_nil, List.getElem?_cons_zero, List.getElem?_cons_succ, List.set_cons_zero, List.set_cons_succ, List.getElem?_set_self, List.getElem?_set_ne, List.length_set, ne_eq, Nat.reduceEqDiff, not_false_eq_true, Nat.reduceLT, Nat.zero_ne_one, Nat.one_ne_zero, Nat.lt_add_one, Nat.zero_lt_succ, startD, List.map_cons, List.map_nil, List.length_cons, List.length_nil, List.cons_append, List.nil_append, Nat.reduceAdd, Nat.reduceSub, Nat.zero_add, List.replicate_succ, List.replicate_zero, show (["tuple", "list"].any fun b => isaT "str" b) = false from by decide, Bool.false_eq_true, if_false, isNonD, if_true]
      rw [W_isi (a := "str") rfl]
      try simp only [W_seq, W_asg, W_set, W_V, WV_some, W_C, W_op, W_cmpT, W_isB, W_un, W_tru, W_andT, W_orT, W_notT, W_andV, W_orV, W_notV, W_ife, W_nil, W_cons, W_tup, W_lst, W_addI, W_subI, W_iaddI, W_negI, W_mulI, W_fdivI, W_modI, W_powI, W_cmpI, W_isB_bl, W_isNB, W_isN, W_isntB, W_isntN, W_eqI, W_neI, W_pass, W_brk, W_cont, W_drop, W_rt, W_rtN, W_ifS, W_gsNil, W_gsCons, W_gTup, W_aug, W_call, W_B, RtN_rt, RtN_nx, W_abs, W_intI, W_intB, W_noPart, W_part, W_sl, W_lm, W_lm0, W_iter, W_range1, W_range2, W_forE, W_revE, W_compE, W_yes, W_lenT, W_truB, W_truI, List.append_nil, List.getElem?_cons_zero, List.getElem?_cons_succ, List.set_cons_zero, List.set_cons_succ, List.getElem?_set_self, List.getElem?_set_ne, List.length_set, ne_eq, Nat.reduceEqDiff, not_false_eq_true, Nat.reduceLT, Nat.zero_ne_one, Nat.one_ne_zero, Nat.lt_add_one, Nat.zero_lt_succ, startD, List.map_cons, List.map_nil, List.length_cons, List.length_nil, List.cons_append, List.nil_append, Nat.reduceAdd, Nat.reduceSub, Nat.zero_add, List.replicate_succ, List.replicate_zero, show (["bool"].any fun b => isaT "str" b) = false from by decide, if_false, isNonD, Bool.false_eq_true]
      rw [W_isi (a := "str") rfl]
      try simp only [W_seq, W_asg, W_set, W_V, WV_some, W_C, W_op, W_cmpT, W_isB, W_un, W_tru, W_andT, W_orT, W_notT, W_andV, W_orV, W_notV, W_ife, W_nil, W_cons, W_tup, W_lst, W_addI, W_subI, W_iaddI, W_negI, W_mulI, W_fdivI, W_modI, W_powI, W_cmpI, W_isB_bl, W_isNB, W_isN, W_isntB, W_isntN, W_eqI, W_neI, W_pass, W_brk, W_cont, W_drop, W_rt, W_rtN, W_ifS, W_gsNil, W_gsCons, W_gTup, W_aug, W_call, W_B, RtN_rt, RtN_nx, W_abs, W_intI, W_intB, W_noPart, W_part, W_sl, W_lm, W_lm0, W_iter, W_range1, W_range2, W_forE, W_revE, W_compE, W_yes, W_lenT, W_truB, W_truI, List.append_nil, List.getElem?_cons_zero, List.getElem?_cons_succ, List.set_cons_zero, List.set_cons_succ, List.getElem?_set_self, List.getElem?_set_ne, List.length_set, ne_eq, Nat.reduceEqDiff, not_false_eq_true, Nat.reduceLT, Nat.zero_ne_one, Nat.one_ne_zero, Nat.lt_add_one, Nat.zero_lt_succ, startD, List.map_cons, List.map_nil, List.length_cons, List.length_nil, List.cons_append, List.nil_append, Nat.reduceAdd, Nat.reduceSub, Nat.zero_add, List.replicate_succ, List.replicate_zero, show (["int", "str"].any fun b => isaT "str" b) = true from by decide, if_true]
      rw [W_isi (a := "str") rfl]
      try simp only [W_seq, W_asg, W_set, W_V, WV_some, W_C, W_op, W_cmpT, W_isB, W_un, W_tru, W_andT, W_orT, W_notT, W_andV, W_orV, W_notV, W_ife, W_nil, W_cons, W_tup, W_lst, W_addI, W_subI, W_iaddI, W_negI, W_mulI, W_fdivI, W_modI, W_powI, W_cmpI, W_isB_bl, W_isNB, W_isN, W_isntB, W_isntN, W_eqI, W_neI, W_pass, W_brk, W_cont, W_drop, W_rt, W_rtN, W_ifS, W_gsNil, W_gsCons, W_gTup, W_aug, W_call, W_B, RtN_rt, RtN_nx, W_abs, W_intI, W_intB, W_noPart, W_part, W_sl, W_lm, W_lm0, W_iter, W_range1, W_range2, W_forE, W_revE, W_compE, W_yes, W_lenT, W_truB, W_truI, List.append_nil, List.getElem?_cons_zero, List.getElem?_cons_succ, List.set_cons_zero, List.set_cons_succ, List.getElem?_set_self, List.getElem?_set_ne, List.length_set, ne_eq, Nat.reduceEqDiff, not_false_eq_true, Nat.reduceLT, Nat.zero_ne_one, Nat.one_ne_zero, Nat.lt_add_one, Nat.zero_lt_succ, startD, List.map_cons, List.map_nil, List.length_cons, List.length_nil, List.cons_append, List.nil_append, Nat.reduceAdd, Nat.reduceSub, Nat.zero_add, List.replicate_succ, List.replicate_zero, show (["str"].any fun b => isaT "str" b) = true from by decide, if_true]
      refine ⟨by decide, .push, h.length, _, rfl, ⟨Nat.le_refl _, by omega⟩, get_push, by simp; omega, .cons rfl (.cons ⟨t, rfl, rfl⟩ .nil)⟩
    | dict _ => exact r.elim
theorem same_law {w d : Nat} {x y : D} {p : PyData} {h : Hd} (rx : Rp 2 w h d x p) (ry : Rp 2 w h d y p) (h1 : 1 < h.length) {Q : D → Hd → Prop} (q : ∀ h', Fr [] h h' → Q (.bl true) h') (hw : 1 ≤ w := by decide) (hwl : w ≤ 1000 := by decide) (hd : d ≤ 12 := by decide) (hs : (w + 3) * (d + 1) ≤ 400 := by decide) : W (F__law_same [x, y]) h Q := by
  unfold F__law_same B__law_same
  refine w_run rfl ?_
  simp only [W_seq, W_asg, W_set, W_V, WV_some, W_C, W_op, W_cmpT, W_isB, W_un, W_tru, W_andT, W_orT, W_notT, W_andV, W_orV, W_notV, W_ife, W_nil, W_cons, W_tup, W_lst, W_addI, W_subI, W_iaddI, W_negI, W_mulI, W_fdivI, W_modI, W_powI, W_cmpI, W_isB_bl, W_isNB, W_isN, W_isntB, W_isntN, W_eqI, W_neI, W_pass, W_brk, W_cont, W_drop, W_rt, W_rtN, W_ifS, W_gsNil, W_gsCons, W_gTup, W_aug, W_call, W_B, RtN_rt, RtN_nx, W_abs, W_intI, W_intB, W_noPart, W_part, W_sl, W_lm, W_lm0, W_iter, W_range1, W_range2, W_forE, W_revE, W_compE, W_yes, W_lenT, W_truB, W_truI, List.append_nil, List.getElem?_cons_zero, List.getElem?_cons_succ, List.set_cons_zero, List.set_cons_succ, List.getElem?_set_self, List.getElem?_set_ne, List.length_set, ne_eq, Nat.reduceEqDiff, not_false_eq_true, Nat.reduceLT, Nat.zero_ne_one, Nat.one_ne_zero, Nat.lt_add_one, Nat.zero_lt_succ, startD, List.map_cons, List.map_nil, List.length_cons, List.length_nil, List.cons_append, List.nil_append, Nat.reduceAdd, Nat.reduceSub, Nat.zero_add, List.replicate_succ, List.replicate_zero]
  refine W.mono (plain_law hw hwl 12 d _ _ _ rx hd h1) fun a h2 ⟨F2, ra⟩ => ?_
  try simp only [W_seq, W_asg, W_set, W_V, WV_some, W_C, W_op, W_cmpT, W_isB, W_un, W_tru, W_andT, W_orT, W_notT, W_andV, W_orV, W_notV, W_ife, W_nil, W_cons, W_tup, W_lst, W_addI, W_subI, W_iaddI, W_negI, W_mulI, W_fdivI, W_modI, W_powI, W_cmpI, W_isB_bl, W_isNB, W_isN, W_isntB, W_isntN, W_eqI, W_neI, W_pass, W_brk, W_cont, W_drop, W_rt, W_rtN, W_ifS, W_gsNil, W_gsCons, W_gTup, W_aug, W_call, W_B, RtN_rt, RtN_nx, W_abs, W_intI, W_intB, W_noPart, W_part, W_sl, W_lm, W_lm0, W_iter, W_range1, W_range2, W_forE, W_revE, W_compE, W_yes, W_lenT, W_truB, W_truI, List.append_nil, List.getElem?_cons_zero, List.getElem?_cons_succ, List.set_cons_zero, List.set_cons_succ, List.getElem?_set_self, List.getElem?_set_ne, List.length_set, ne_eq, Nat.reduceEqDiff, not_false_eq_true, Nat.reduceLT, Nat.zero_ne_one, Nat.one_ne_zero, Nat.lt_add_one, Nat.zero_lt_succ, startD, List.map_cons, List.map_nil, List.length_cons, List.length_nil, List.cons_append, List.nil_append, Nat.reduceAdd, Nat.reduceSub, Nat.zero_add, List.replicate_succ, List.replicate_zero]
  refine W.mono (plain_law hw hwl 12 d _ _ _ (ry.fr F2) hd (Nat.lt_of_lt_of_le h1 F2.le)) fun b h3 ⟨F3, rb⟩ => ?_
  try simp only [W_seq, W_asg, W_set, W_V, WV_some, W_C, W_op, W_cmpT, W_isB, W_un, W_tru, W_andT, W_orT, W_notT, W_andV, W_orV, W_notV, W_ife, W_nil, W_cons, W_tup, W_lst, W_addI, W_subI, W_iaddI, W_negI, W_mulI, W_fdivI, W_modI, W_powI, W_cmpI, W_isB_bl, W_isNB, W_isN, W_isntB, W_isntN, W_eqI, W_neI, W_pass, W_brk, W_cont, W_drop, W_rt, W_rtN, W_ifS, W_gsNil, W_gsCons, W_gTup, W_aug, W_call, W_B, RtN_rt, RtN_nx, W_abs, W_intI, W_intB, W_noPart, W_part, W_sl, W_lm, W_lm0, W_iter, W_range1, W_range2, W_forE, W_revE, W_compE, W_yes, W_lenT, W_truB, W_truI, List.append_nil, List.getElem?_cons_zero, List.getElem?_cons_succ, List.set_cons_zero, List.set_cons_succ, List.getElem?_set_self, List.getElem?_set_ne, List.length_set, ne_eq, Nat.reduceEqDiff, not_false_eq_true, Nat.reduceLT, Nat.zero_ne_one, Nat.one_ne_zero, Nat.lt_add_one, Nat.zero_lt_succ, startD, List.map_cons, List.map_nil, List.length_cons, List.length_nil, List.cons_append, List.nil_append, Nat.reduceAdd, Nat.reduceSub, Nat.zero_add, List.replicate_succ, List.replicate_zero]
  have ra := ra.fr F3
  rw [W_eq (ra.toPy DEEP hs) (rb.toPy DEEP hs) (ra.shaped (by omega)) (rb.shaped (by omega)), SeqAt.eqv_refl _ ra.lay.1]
  try simp only [W_seq, W_asg, W_set, W_V, WV_some, W_C, W_op, W_cmpT, W_isB, W_un, W_tru, W_andT, W_orT, W_notT, W_andV, W_orV, W_notV, W_ife, W_nil, W_cons, W_tup, W_lst, W_addI, W_subI, W_iaddI, W_negI, W_mulI, W_fdivI, W_modI, W_powI, W_cmpI, W_isB_bl, W_isNB, W_isN, W_isntB, W_isntN, W_eqI, W_neI, W_pass, W_brk, W_cont, W_drop, W_rt, W_rtN, W_ifS, W_gsNil, W_gsCons, W_gTup, W_aug, W_call, W_B, RtN_rt, RtN_nx, W_abs, W_intI, W_intB, W_noPart, W_part, W_sl, W_lm, W_lm0, W_iter, W_range1, W_range2, W_forE, W_revE, W_compE, W_yes, W_lenT, W_truB, W_truI, List.append_nil, List.getElem?_cons_zero, List.getElem?_cons_succ, List.set_cons_zero, List.set_cons_succ, List.getElem?_set_self, List.getElem?_set_ne, List.length_set, ne_eq, Nat.reduceEqDiff, not_false_eq_true, Nat.reduceLT, Nat.zero_ne_one, Nat.one_ne_zero, Nat.lt_add_one, Nat.zero_lt_succ, startD, List.map_cons, List.map_nil, List.length_cons, List.length_nil, List.cons_append, List.nil_append, Nat.reduceAdd, Nat.reduceSub, Nat.zero_add, List.replicate_succ, List.replicate_zero]
  exact q _ (F2.trans F3)
end Lk04

set_option Elab.async false
set_option linter.all false
set_option autoImplicit false
set_option maxRecDepth 100000
set_option maxHeartbeats 4000000
namespace Lk04
open Dt PySem
/-! ### the tolls -/
abbrev Tl := Int × Int × Int
def tD (t : Tl) : D := .tup [.int t.1, .int t.2.1, .int t.2.2]
def rD (r : Int × Int) : D := .tup [.int r.1, .int r.2]
def rP (r : Int × Int) : PyData := .tuple [.int r.1, .int r.2]
def mci (t : Tl) (m : Int) : Int := m + t.1 + (m * t.2.1 + 999) / 1000
def okT (t : Tl) : Prop := (0 ≤ t.1 ∧ t.1 < 30) ∧ (0 ≤ t.2.1 ∧ t.2.1 < 2000) ∧ 0 ≤ t.2.2 ∧ t.2.2 < 9
def okS (t : Tl) : Prop := okT t ∧ t.2.1 < 600
def hdP (a d : Int) : List Tl → Int × Int
  | [] => (a, d)
  | t :: ts => (mci t (hdP a d ts).1, (hdP a d ts).2 + t.2.2)
def legsP (a d : Int) : List Tl → List (Int × Int)
  | [] => [(a, d)]
  | t :: ts => hdP a d (t :: ts) :: legsP a d ts
theorem legs_len (a d : Int) : ∀ ts, (legsP a d ts).length = ts.length + 1
  | [] => rfl
  | _ :: ts => by simp [legsP, legs_len a d ts]
theorem legs_get (a d : Int) : ∀ (ts : List Tl) (k : Nat), k ≤ ts.length → (legsP a d ts)[k]? = some (hdP a d (ts.drop k))
  | [], 0, _ => rfl
  | t :: ts, 0, _ => rfl
  | t :: ts, k + 1, h => by simpa [legsP] using legs_get a d ts k (by simpa using h)
theorem hd_app (a d : Int) (ys : List Tl) : ∀ xs, hdP a d (xs ++ ys) = hdP (hdP a d ys).1 (hdP a d ys).2 xs
  | [] => rfl
  | t :: ts => by simp [hdP, hd_app a d ys ts]
theorem legs_app (a d : Int) (ys : List Tl) : ∀ xs, legsP a d (xs ++ ys) = (legsP (hdP a d ys).1 (hdP a d ys).2 xs).dropLast ++ legsP a d ys
  | [] => by simp [legsP]
  | t :: ts => by
    have : legsP (hdP a d ys).1 (hdP a d ys).2 ts ≠ [] := by
      intro z; have := legs_len (hdP a d ys).1 (hdP a d ys).2 ts; rw [z] at this; cases this
    rw [List.cons_append, legsP, legs_app a d ys ts, legsP, List.dropLast_cons_of_ne_nil this, List.cons_append, show t :: (ts ++ ys) = (t :: ts) ++ ys from rfl, hd_app]
theorem hd_bound (a d : Int) (ha : 0 ≤ a) (hd : 0 ≤ d) : ∀ ts : List Tl, (∀ t ∈ ts, okS t) → a ≤ (hdP a d ts).1 ∧ d ≤ (hdP a d ts).2 ∧ (hdP a d ts).1 + 32 ≤ (a + 32) * 2 ^ ts.length
  | [], _ => by simp [hdP]
  | t :: ts, h => by
    obtain ⟨h1, h2, h3⟩ := hd_bound a d ha hd ts fun t z => h t (List.mem_cons_of_mem _ z)
    obtain ⟨⟨k1, k2, k3⟩, k4⟩ := h t (List.mem_cons_self)
    simp only [hdP, mci, List.length_cons, Int.pow_succ]
    have m1 : (hdP a d ts).1 * t.2.1 ≤ (hdP a d ts).1 * 600 := Int.mul_le_mul_of_nonneg_left (by omega) (by omega)
    have m2 : 0 ≤ (hdP a d ts).1 * t.2.1 := Int.mul_nonneg (by omega) (by omega)
    refine ⟨by omega, by omega, ?_⟩
    rw [← Int.mul_assoc]
    omega
theorem mci_law {t : Tl} {m : Int} {h : Hd} {Q : D → Hd → Prop} (ht : okT t) (q : Q (.int (mci t m)) h) : W (F_must_come_in [tD t, .int m]) h Q := by
  unfold F_must_come_in B_must_come_in tD
  obtain ⟨⟨k1, k1'⟩, ⟨k2, k2'⟩, k3⟩ := ht
  refine w_run rfl ?_
  try simp only [W_seq, W_asg, W_set, W_V, WV_some, W_C, W_op, W_cmpT, W_isB, W_un, W_tru, W_andT, W_orT, W_notT, W_andV, W_orV, W_notV, W_ife, W_nil, W_cons, W_tup, W_lst, W_addI, W_subI, W_iaddI, W_negI, W_mulI, W_fdivI, W_modI, W_powI, W_cmpI, W_isB_bl, W_isNB, W_isN, W_isntB, W_isntN, W_eqI, W_neI, W_pass, W_brk, W_cont, W_drop, W_rt, W_rtN, W_ifS, W_gsNil, W_gsCons, W_gTup, W_aug, W_call, W_B, RtN_rt, RtN_nx, W_abs, W_intI, W_intB, W_noPart, W_part, W_sl, W_lm, W_lm0, W_iter, W_range1, W_range2, W_forE, W_revE, W_compE, W_yes, W_lenT, W_truB, W_truI, List.append_nil, List.getElem?_cons_zero, List.getElem?_cons_succ, List.set_cons_zero, List.set_cons_succ, List.getElem?_set_self, List.getElem?_set_ne, List.length_set, ne_eq, Nat.reduceEqDiff, not_false_eq_true, Nat.reduceLT, Nat.zero_ne_one, Nat.one_ne_zero, Nat.lt_add_one, Nat.zero_lt_succ, startD, List.map_cons, List.map_nil, List.length_cons, List.length_nil, List.cons_append, List.nil_append, Nat.reduceAdd, Nat.reduceSub, Nat.zero_add, List.replicate_succ, List.replicate_zero]
  rw [W_ixT (d := .int t.1) rfl]
  try simp only [W_seq, W_asg, W_set, W_V, WV_some, W_C, W_op, W_cmpT, W_isB, W_un, W_tru, W_andT, W_orT, W_notT, W_andV, W_orV, W_notV, W_ife, W_nil, W_cons, W_tup, W_lst, W_addI, W_subI, W_iaddI, W_negI, W_mulI, W_fdivI, W_modI, W_powI, W_cmpI, W_isB_bl, W_isNB, W_isN, W_isntB, W_isntN, W_eqI, W_neI, W_pass, W_brk, W_cont, W_drop, W_rt, W_rtN, W_ifS, W_gsNil, W_gsCons, W_gTup, W_aug, W_call, W_B, RtN_rt, RtN_nx, W_abs, W_intI, W_intB, W_noPart, W_part, W_sl, W_lm, W_lm0, W_iter, W_range1, W_range2, W_forE, W_revE, W_compE, W_yes, W_lenT, W_truB, W_truI, List.append_nil, List.getElem?_cons_zero, List.getElem?_cons_succ, List.set_cons_zero, List.set_cons_succ, List.getElem?_set_self, List.getElem?_set_ne, List.length_set, ne_eq, Nat.reduceEqDiff, not_false_eq_true, Nat.reduceLT, Nat.zero_ne_one, Nat.one_ne_zero, Nat.lt_add_one, Nat.zero_lt_succ, startD, List.map_cons, List.map_nil, List.length_cons, List.length_nil, List.cons_append, List.nil_append, Nat.reduceAdd, Nat.reduceSub, Nat.zero_add, List.replicate_succ, List.replicate_zero]
  rw [W_ixT (d := .int t.2.1) rfl]
  try simp only [W_seq, W_asg, W_set, W_V, WV_some, W_C, W_op, W_cmpT, W_isB, W_un, W_tru, W_andT, W_orT, W_notT, W_andV, W_orV, W_notV, W_ife, W_nil, W_cons, W_tup, W_lst, W_addI, W_subI, W_iaddI, W_negI, W_mulI, W_fdivI, W_modI, W_powI, W_cmpI, W_isB_bl, W_isNB, W_isN, W_isntB, W_isntN, W_eqI, W_neI, W_pass, W_brk, W_cont, W_drop, W_rt, W_rtN, W_ifS, W_gsNil, W_gsCons, W_gTup, W_aug, W_call, W_B, RtN_rt, RtN_nx, W_abs, W_intI, W_intB, W_noPart, W_part, W_sl, W_lm, W_lm0, W_iter, W_range1, W_range2, W_forE, W_revE, W_compE, W_yes, W_lenT, W_truB, W_truI, List.append_nil, List.getElem?_cons_zero, List.getElem?_cons_succ, List.set_cons_zero, List.set_cons_succ, List.getElem?_set_self, List.getElem?_set_ne, List.length_set, ne_eq, Nat.reduceEqDiff, not_false_eq_true, Nat.reduceLT, Nat.zero_ne_one, Nat.one_ne_zero, Nat.lt_add_one, Nat.zero_lt_succ, startD, List.map_cons, List.map_nil, List.length_cons, List.length_nil, List.cons_append, List.nil_append, Nat.reduceAdd, Nat.reduceSub, Nat.zero_add, List.replicate_succ, List.replicate_zero]
  exact ⟨.inr ⟨by omega, by omega⟩, by decide, q⟩
theorem drop_step {ts : List Tl} {i : Nat} (hi : i < ts.length) : ts.drop (ts.length - (i + 1)) = ts[ts.length - 1 - i]'(by omega) :: ts.drop (ts.length - i) := by
  have e : ts.length - (i + 1) = ts.length - 1 - i := by omega
  have e2 : ts.length - i = (ts.length - 1 - i) + 1 := by omega
  rw [e, e2]
  exact List.drop_eq_getElem_cons (by omega)
theorem legs_law {a d : Int} {t : Nat} {ts : List Tl} {h : Hd} {Q : D → Hd → Prop} (et : h[t]? = some (.lst (ts.map tD))) (ht1 : t ≠ 1) (hok : ∀ t ∈ ts, okT t) (hl : ts.length ≤ 20) (hb : ∀ k, k ≤ ts.length → (hdP a d (ts.drop k)).1 ≤ 1000000000000000) (h1 : 1 < h.length)
    (q : ∀ h' n, Fr [] h h' → 2 ≤ n → h'[n]? = some (.lst ((legsP a d ts).map rD)) → Q (.ref n) h') : W (F_legs [.int a, .int d, .ref t]) h Q := by
  unfold F_legs B_legs
  refine w_run rfl ?_
  have hb0 : a ≤ 1000000000000000 := by have := hb ts.length (Nat.le_refl _); simpa [hdP] using this
  try simp only [W_seq, W_asg, W_set, W_V, WV_some, W_C, W_op, W_cmpT, W_isB, W_un, W_tru, W_andT, W_orT, W_notT, W_andV, W_orV, W_notV, W_ife, W_nil, W_cons, W_tup, W_lst, W_addI, W_subI, W_iaddI, W_negI, W_mulI, W_fdivI, W_modI, W_powI, W_cmpI, W_isB_bl, W_isNB, W_isN, W_isntB, W_isntN, W_eqI, W_neI, W_pass, W_brk, W_cont, W_drop, W_rt, W_rtN, W_ifS, W_gsNil, W_gsCons, W_gTup, W_aug, W_call, W_B, RtN_rt, RtN_nx, W_abs, W_intI, W_intB, W_noPart, W_part, W_sl, W_lm, W_lm0, W_iter, W_range1, W_range2, W_forE, W_revE, W_compE, W_yes, W_lenT, W_truB, W_truI, List.append_nil, List.getElem?_cons_zero, List.getElem?_cons_succ, List.set_cons_zero, List.set_cons_succ, List.getElem?_set_self, List.getElem?_set_ne, List.length_set, ne_eq, Nat.reduceEqDiff, not_false_eq_true, Nat.reduceLT, Nat.zero_ne_one, Nat.one_ne_zero, Nat.lt_add_one, Nat.zero_lt_succ, startD, List.map_cons, List.map_nil, List.length_cons, List.length_nil, List.cons_append, List.nil_append, Nat.reduceAdd, Nat.reduceSub, Nat.zero_add, List.replicate_succ, List.replicate_zero]
  rw [W_lenM et]
  try simp only [W_seq, W_asg, W_set, W_V, WV_some, W_C, W_op, W_cmpT, W_isB, W_un, W_tru, W_andT, W_orT, W_notT, W_andV, W_orV, W_notV, W_ife, W_nil, W_cons, W_tup, W_lst, W_addI, W_subI, W_iaddI, W_negI, W_mulI, W_fdivI, W_modI, W_powI, W_cmpI, W_isB_bl, W_isNB, W_isN, W_isntB, W_isntN, W_eqI, W_neI, W_pass, W_brk, W_cont, W_drop, W_rt, W_rtN, W_ifS, W_gsNil, W_gsCons, W_gTup, W_aug, W_call, W_B, RtN_rt, RtN_nx, W_abs, W_intI, W_intB, W_noPart, W_part, W_sl, W_lm, W_lm0, W_iter, W_range1, W_range2, W_forE, W_revE, W_compE, W_yes, W_lenT, W_truB, W_truI, List.append_nil, List.getElem?_cons_zero, List.getElem?_cons_succ, List.set_cons_zero, List.set_cons_succ, List.getElem?_set_self, List.getElem?_set_ne, List.length_set, ne_eq, Nat.reduceEqDiff, not_false_eq_true, Nat.reduceLT, Nat.zero_ne_one, Nat.one_ne_zero, Nat.lt_add_one, Nat.zero_lt_succ, startD, List.map_cons, List.map_nil, List.length_cons, List.length_nil, List.cons_append, List.nil_append, Nat.reduceAdd, Nat.reduceSub, Nat.zero_add, List.replicate_succ, List.replicate_zero, List.length_map, show decide ((20 : Int) < (ts.length : Nat)) = false by simp <;> omega, Bool.false_eq_true, if_false, show decide ((1000000000000000 : Int) < a) = false by simp <;> omega]
  refine ⟨by decide, by decide, ?_⟩
  try simp only [W_seq, W_asg, W_set, W_V, WV_some, W_C, W_op, W_cmpT, W_isB, W_un, W_tru, W_andT, W_orT, W_notT, W_andV, W_orV, W_notV, W_ife, W_nil, W_cons, W_tup, W_lst, W_addI, W_subI, W_iaddI, W_negI, W_mulI, W_fdivI, W_modI, W_powI, W_cmpI, W_isB_bl, W_isNB, W_isN, W_isntB, W_isntN, W_eqI, W_neI, W_pass, W_brk, W_cont, W_drop, W_rt, W_rtN, W_ifS, W_gsNil, W_gsCons, W_gTup, W_aug, W_call, W_B, RtN_rt, RtN_nx, W_abs, W_intI, W_intB, W_noPart, W_part, W_sl, W_lm, W_lm0, W_iter, W_range1, W_range2, W_forE, W_revE, W_compE, W_yes, W_lenT, W_truB, W_truI, List.append_nil, List.getElem?_cons_zero, List.getElem?_cons_succ, List.set_cons_zero, List.set_cons_succ, List.getElem?_set_self, List.getElem?_set_ne, List.length_set, ne_eq, Nat.reduceEqDiff, not_false_eq_true, Nat.reduceLT, Nat.zero_ne_one, Nat.one_ne_zero, Nat.lt_add_one, Nat.zero_lt_succ, startD, List.map_cons, List.map_nil, List.length_cons, List.length_nil, List.cons_append, List.nil_append, Nat.reduceAdd, Nat.reduceSub, Nat.zero_add, List.replicate_succ, List.replicate_zero]
  refine ⟨_, rfl, ?_⟩
  rw [W_srcRev (get_pushL et)]
  have ht0 : t < h.length := get_lt et
  refine w_forRv (fun i σ h' => Fr [h.length] h h' ∧ σ.length = 5 ∧ σ[2]? = some (some (.ref t)) ∧ σ[3]? = some (some (.ref h.length)) ∧ σ[0]? = some (some (.int (hdP a d (ts.drop (ts.length - i))).1)) ∧ σ[1]? = some (some (.int (hdP a d (ts.drop (ts.length - i))).2)) ∧ h'[h.length]? = some (.lst ((legsP a d (ts.drop (ts.length - i))).reverse.map rD)))
    ⟨Fr.mono (S := []) .push (fun _ _ z => by cases z), rfl, rfl, rfl, by simp [hdP], by simp [hdP], by simp [legsP, rD]⟩ ?_ ?_ ?_
  · rintro i σ h' ⟨F, _⟩
    exact F.keep et (by simp <;> omega) ht1
  · rintro i σ h' hi ⟨F, sl, s2, s3, s0, s1, e⟩
    have hi' : i < ts.length := by simpa using hi
    have ev : (ts.map tD)[(ts.map tD).length - 1 - i]'(by omega) = tD (ts[ts.length - 1 - i]'(by omega)) := by simp
    rw [ev]
    have hm : okT (ts[ts.length - 1 - i]'(by omega)) := hok _ (List.getElem_mem _)
    have ds := drop_step hi'
    have hbk := hb (ts.length - (i + 1)) (by omega)
    rw [ds, hdP] at hbk
    unfold Turn L_legs_0
    try simp only [W_seq, W_asg, W_set, W_V, WV_some, W_C, W_op, W_cmpT, W_isB, W_un, W_tru, W_andT, W_orT, W_notT, W_andV, W_orV, W_notV, W_ife, W_nil, W_cons, W_tup, W_lst, W_addI, W_subI, W_iaddI, W_negI, W_mulI, W_fdivI, W_modI, W_powI, W_cmpI, W_isB_bl, W_isNB, W_isN, W_isntB, W_isntN, W_eqI, W_neI, W_pass, W_brk, W_cont, W_drop, W_rt, W_rtN, W_ifS, W_gsNil, W_gsCons, W_gTup, W_aug, W_call, W_B, RtN_rt, RtN_nx, W_abs, W_intI, W_intB, W_noPart, W_part, W_sl, W_lm, W_lm0, W_iter, W_range1, W_range2, W_forE, W_revE, W_compE, W_yes, W_lenT, W_truB, W_truI, List.append_nil, List.getElem?_cons_zero, List.getElem?_cons_succ, List.set_cons_zero, List.set_cons_succ, List.getElem?_set_self, List.getElem?_set_ne, List.length_set, ne_eq, Nat.reduceEqDiff, not_false_eq_true, Nat.reduceLT, Nat.zero_ne_one, Nat.one_ne_zero, Nat.lt_add_one, Nat.zero_lt_succ, startD, List.map_cons, List.map_nil, List.length_cons, List.length_nil, List.cons_append, List.nil_append, Nat.reduceAdd, Nat.reduceSub, Nat.zero_add, List.replicate_succ, List.replicate_zero, sl, s0, s1, s2, s3]
    refine mci_law hm ?_
    try simp only [W_seq, W_asg, W_set, W_V, WV_some, W_C, W_op, W_cmpT, W_isB, W_un, W_tru, W_andT, W_orT, W_notT, W_andV, W_orV, W_notV, W_ife, W_nil, W_cons, W_tup, W_lst, W_addI, W_subI, W_iaddI, W_negI, W_mulI, W_fdivI, W_modI, W_powI, W_cmpI, W_isB_bl, W_isNB, W_isN, W_isntB, W_isntN, W_eqI, W_neI, W_pass, W_brk, W_cont, W_drop, W_rt, W_rtN, W_ifS, W_gsNil, W_gsCons, W_gTup, W_aug, W_call, W_B, RtN_rt, RtN_nx, W_abs, W_intI, W_intB, W_noPart, W_part, W_sl, W_lm, W_lm0, W_iter, W_range1, W_range2, W_forE, W_revE, W_compE, W_yes, W_lenT, W_truB, W_truI, List.append_nil, List.getElem?_cons_zero, List.getElem?_cons_succ, List.set_cons_zero, List.set_cons_succ, List.getElem?_set_self, List.getElem?_set_ne, List.length_set, ne_eq, Nat.reduceEqDiff, not_false_eq_true, Nat.reduceLT, Nat.zero_ne_one, Nat.one_ne_zero, Nat.lt_add_one, Nat.zero_lt_succ, startD, List.map_cons, List.map_nil, List.length_cons, List.length_nil, List.cons_append, List.nil_append, Nat.reduceAdd, Nat.reduceSub, Nat.zero_add, List.replicate_succ, List.replicate_zero, sl, s0, s1, s2, s3]
    rw [show tD (ts[ts.length - 1 - i]'(by omega)) = .tup [.int (ts[ts.length - 1 - i]'(by omega)).1, .int (ts[ts.length - 1 - i]'(by omega)).2.1, .int (ts[ts.length - 1 - i]'(by omega)).2.2] from rfl, W_ixT (d := .int (ts[ts.length - 1 - i]'(by omega)).2.2) rfl]
    try simp only [W_seq, W_asg, W_set, W_V, WV_some, W_C, W_op, W_cmpT, W_isB, W_un, W_tru, W_andT, W_orT, W_notT, W_andV, W_orV, W_notV, W_ife, W_nil, W_cons, W_tup, W_lst, W_addI, W_subI, W_iaddI, W_negI, W_mulI, W_fdivI, W_modI, W_powI, W_cmpI, W_isB_bl, W_isNB, W_isN, W_isntB, W_isntN, W_eqI, W_neI, W_pass, W_brk, W_cont, W_drop, W_rt, W_rtN, W_ifS, W_gsNil, W_gsCons, W_gTup, W_aug, W_call, W_B, RtN_rt, RtN_nx, W_abs, W_intI, W_intB, W_noPart, W_part, W_sl, W_lm, W_lm0, W_iter, W_range1, W_range2, W_forE, W_revE, W_compE, W_yes, W_lenT, W_truB, W_truI, List.append_nil, List.getElem?_cons_zero, List.getElem?_cons_succ, List.set_cons_zero, List.set_cons_succ, List.getElem?_set_self, List.getElem?_set_ne, List.length_set, ne_eq, Nat.reduceEqDiff, not_false_eq_true, Nat.reduceLT, Nat.zero_ne_one, Nat.one_ne_zero, Nat.lt_add_one, Nat.zero_lt_succ, startD, List.map_cons, List.map_nil, List.length_cons, List.length_nil, List.cons_append, List.nil_append, Nat.reduceAdd, Nat.reduceSub, Nat.zero_add, List.replicate_succ, List.replicate_zero, sl, s0, s1, s2, s3]
    rw [show decide ((1000000000000000 : Int) < mci (ts[ts.length - 1 - i]'(by omega)) (hdP a d (ts.drop (ts.length - i))).1) = false by simp; exact hbk]
    try simp only [W_seq, W_asg, W_set, W_V, WV_some, W_C, W_op, W_cmpT, W_isB, W_un, W_tru, W_andT, W_orT, W_notT, W_andV, W_orV, W_notV, W_ife, W_nil, W_cons, W_tup, W_lst, W_addI, W_subI, W_iaddI, W_negI, W_mulI, W_fdivI, W_modI, W_powI, W_cmpI, W_isB_bl, W_isNB, W_isN, W_isntB, W_isntN, W_eqI, W_neI, W_pass, W_brk, W_cont, W_drop, W_rt, W_rtN, W_ifS, W_gsNil, W_gsCons, W_gTup, W_aug, W_call, W_B, RtN_rt, RtN_nx, W_abs, W_intI, W_intB, W_noPart, W_part, W_sl, W_lm, W_lm0, W_iter, W_range1, W_range2, W_forE, W_revE, W_compE, W_yes, W_lenT, W_truB, W_truI, List.append_nil, List.getElem?_cons_zero, List.getElem?_cons_succ, List.set_cons_zero, List.set_cons_succ, List.getElem?_set_self, List.getElem?_set_ne, List.length_set, ne_eq, Nat.reduceEqDiff, not_false_eq_true, Nat.reduceLT, Nat.zero_ne_one, Nat.one_ne_zero, Nat.lt_add_one, Nat.zero_lt_succ, startD, List.map_cons, List.map_nil, List.length_cons, List.length_nil, List.cons_append, List.nil_append, Nat.reduceAdd, Nat.reduceSub, Nat.zero_add, List.replicate_succ, List.replicate_zero, sl, s0, s1, s2, s3, Bool.false_eq_true, if_false]
    rw [W_isLst e]
    try simp only [W_seq, W_asg, W_set, W_V, WV_some, W_C, W_op, W_cmpT, W_isB, W_un, W_tru, W_andT, W_orT, W_notT, W_andV, W_orV, W_notV, W_ife, W_nil, W_cons, W_tup, W_lst, W_addI, W_subI, W_iaddI, W_negI, W_mulI, W_fdivI, W_modI, W_powI, W_cmpI, W_isB_bl, W_isNB, W_isN, W_isntB, W_isntN, W_eqI, W_neI, W_pass, W_brk, W_cont, W_drop, W_rt, W_rtN, W_ifS, W_gsNil, W_gsCons, W_gTup, W_aug, W_call, W_B, RtN_rt, RtN_nx, W_abs, W_intI, W_intB, W_noPart, W_part, W_sl, W_lm, W_lm0, W_iter, W_range1, W_range2, W_forE, W_revE, W_compE, W_yes, W_lenT, W_truB, W_truI, List.append_nil, List.getElem?_cons_zero, List.getElem?_cons_succ, List.set_cons_zero, List.set_cons_succ, List.getElem?_set_self, List.getElem?_set_ne, List.length_set, ne_eq, Nat.reduceEqDiff, not_false_eq_true, Nat.reduceLT, Nat.zero_ne_one, Nat.one_ne_zero, Nat.lt_add_one, Nat.zero_lt_succ, startD, List.map_cons, List.map_nil, List.length_cons, List.length_nil, List.cons_append, List.nil_append, Nat.reduceAdd, Nat.reduceSub, Nat.zero_add, List.replicate_succ, List.replicate_zero, sl, s0, s1, s2, s3]
    refine ⟨by decide, ?_⟩
    rw [W_app e (by simp [legs_len]; show _ < 1000000; omega)]
    refine ⟨F.trans (.write (by simp) (by omega)), by simp [sl], by simp [s2], by simp [s3], ?_, ?_, ?_⟩
    · rw [ds]; simp [sl, hdP]
    · rw [ds]; simp [sl, hdP]
    · rw [get_set e, ds]; simp [legsP, hdP, rD]
  · rintro σ h' ⟨F, sl, s2, s3, s0, s1, e⟩
    try simp only [W_seq, W_asg, W_set, W_V, WV_some, W_C, W_op, W_cmpT, W_isB, W_un, W_tru, W_andT, W_orT, W_notT, W_andV, W_orV, W_notV, W_ife, W_nil, W_cons, W_tup, W_lst, W_addI, W_subI, W_iaddI, W_negI, W_mulI, W_fdivI, W_modI, W_powI, W_cmpI, W_isB_bl, W_isNB, W_isN, W_isntB, W_isntN, W_eqI, W_neI, W_pass, W_brk, W_cont, W_drop, W_rt, W_rtN, W_ifS, W_gsNil, W_gsCons, W_gTup, W_aug, W_call, W_B, RtN_rt, RtN_nx, W_abs, W_intI, W_intB, W_noPart, W_part, W_sl, W_lm, W_lm0, W_iter, W_range1, W_range2, W_forE, W_revE, W_compE, W_yes, W_lenT, W_truB, W_truI, List.append_nil, List.getElem?_cons_zero, List.getElem?_cons_succ, List.set_cons_zero, List.set_cons_succ, List.getElem?_set_self, List.getElem?_set_ne, List.length_set, ne_eq, Nat.reduceEqDiff, not_false_eq_true, Nat.reduceLT, Nat.zero_ne_one, Nat.one_ne_zero, Nat.lt_add_one, Nat.zero_lt_succ, startD, List.map_cons, List.map_nil, List.length_cons, List.length_nil, List.cons_append, List.nil_append, Nat.reduceAdd, Nat.reduceSub, Nat.zero_add, List.replicate_succ, List.replicate_zero, sl, s0, s1, s2, s3]
    rw [W_revSl e]
    try simp only [W_seq, W_asg, W_set, W_V, WV_some, W_C, W_op, W_cmpT, W_isB, W_un, W_tru, W_andT, W_orT, W_notT, W_andV, W_orV, W_notV, W_ife, W_nil, W_cons, W_tup, W_lst, W_addI, W_subI, W_iaddI, W_negI, W_mulI, W_fdivI, W_modI, W_powI, W_cmpI, W_isB_bl, W_isNB, W_isN, W_isntB, W_isntN, W_eqI, W_neI, W_pass, W_brk, W_cont, W_drop, W_rt, W_rtN, W_ifS, W_gsNil, W_gsCons, W_gTup, W_aug, W_call, W_B, RtN_rt, RtN_nx, W_abs, W_intI, W_intB, W_noPart, W_part, W_sl, W_lm, W_lm0, W_iter, W_range1, W_range2, W_forE, W_revE, W_compE, W_yes, W_lenT, W_truB, W_truI, List.append_nil, List.getElem?_cons_zero, List.getElem?_cons_succ, List.set_cons_zero, List.set_cons_succ, List.getElem?_set_self, List.getElem?_set_ne, List.length_set, ne_eq, Nat.reduceEqDiff, not_false_eq_true, Nat.reduceLT, Nat.zero_ne_one, Nat.one_ne_zero, Nat.lt_add_one, Nat.zero_lt_succ, startD, List.map_cons, List.map_nil, List.length_cons, List.length_nil, List.cons_append, List.nil_append, Nat.reduceAdd, Nat.reduceSub, Nat.zero_add, List.replicate_succ, List.replicate_zero]
    refine q _ _ ((Fr.fresh (n := h.length) F (Nat.le_refl _)).trans .push) (by have := F.le; omega) ?_
    rw [get_push, List.length_map, Nat.sub_self, List.drop_zero, List.map_reverse, List.reverse_reverse]
def row (r : Int × Int) : D := .tup [.int 1, .int r.1, .int r.2, .bl true]
theorem give_law {t : Tl} {H m d ia id' : Int} {h : Hd} {Q : D → Hd → Prop} (ht : okT t) (hm : 1 ≤ m)
    (q : Q (.bl (decide (mci t m ≤ ia) && (decide (d + t.2.2 ≤ id') && decide (H < d)))) h) : W (F_may_give [tD t, .int H, row (ia, id'), row (m, d)]) h Q := by
  unfold F_may_give B_may_give row
  refine w_run rfl ?_
  try simp only [W_seq, W_asg, W_set, W_V, WV_some, W_C, W_op, W_cmpT, W_isB, W_un, W_tru, W_andT, W_orT, W_notT, W_andV, W_orV, W_notV, W_ife, W_nil, W_cons, W_tup, W_lst, W_addI, W_subI, W_iaddI, W_negI, W_mulI, W_fdivI, W_modI, W_powI, W_cmpI, W_isB_bl, W_isNB, W_isN, W_isntB, W_isntN, W_eqI, W_neI, W_pass, W_brk, W_cont, W_drop, W_rt, W_rtN, W_ifS, W_gsNil, W_gsCons, W_gTup, W_aug, W_call, W_B, RtN_rt, RtN_nx, W_abs, W_intI, W_intB, W_noPart, W_part, W_sl, W_lm, W_lm0, W_iter, W_range1, W_range2, W_forE, W_revE, W_compE, W_yes, W_lenT, W_truB, W_truI, List.append_nil, List.getElem?_cons_zero, List.getElem?_cons_succ, List.set_cons_zero, List.set_cons_succ, List.getElem?_set_self, List.getElem?_set_ne, List.length_set, ne_eq, Nat.reduceEqDiff, not_false_eq_true, Nat.reduceLT, Nat.zero_ne_one, Nat.one_ne_zero, Nat.lt_add_one, Nat.zero_lt_succ, startD, List.map_cons, List.map_nil, List.length_cons, List.length_nil, List.cons_append, List.nil_append, Nat.reduceAdd, Nat.reduceSub, Nat.zero_add, List.replicate_succ, List.replicate_zero]
  rw [W_ixT (d := .int 1) rfl]
  try simp only [W_seq, W_asg, W_set, W_V, WV_some, W_C, W_op, W_cmpT, W_isB, W_un, W_tru, W_andT, W_orT, W_notT, W_andV, W_orV, W_notV, W_ife, W_nil, W_cons, W_tup, W_lst, W_addI, W_subI, W_iaddI, W_negI, W_mulI, W_fdivI, W_modI, W_powI, W_cmpI, W_isB_bl, W_isNB, W_isN, W_isntB, W_isntN, W_eqI, W_neI, W_pass, W_brk, W_cont, W_drop, W_rt, W_rtN, W_ifS, W_gsNil, W_gsCons, W_gTup, W_aug, W_call, W_B, RtN_rt, RtN_nx, W_abs, W_intI, W_intB, W_noPart, W_part, W_sl, W_lm, W_lm0, W_iter, W_range1, W_range2, W_forE, W_revE, W_compE, W_yes, W_lenT, W_truB, W_truI, List.append_nil, List.getElem?_cons_zero, List.getElem?_cons_succ, List.set_cons_zero, List.set_cons_succ, List.getElem?_set_self, List.getElem?_set_ne, List.length_set, ne_eq, Nat.reduceEqDiff, not_false_eq_true, Nat.reduceLT, Nat.zero_ne_one, Nat.one_ne_zero, Nat.lt_add_one, Nat.zero_lt_succ, startD, List.map_cons, List.map_nil, List.length_cons, List.length_nil, List.cons_append, List.nil_append, Nat.reduceAdd, Nat.reduceSub, Nat.zero_add, List.replicate_succ, List.replicate_zero]
  rw [W_ixT (d := .int 1) rfl]
  try simp only [W_seq, W_asg, W_set, W_V, WV_some, W_C, W_op, W_cmpT, W_isB, W_un, W_tru, W_andT, W_orT, W_notT, W_andV, W_orV, W_notV, W_ife, W_nil, W_cons, W_tup, W_lst, W_addI, W_subI, W_iaddI, W_negI, W_mulI, W_fdivI, W_modI, W_powI, W_cmpI, W_isB_bl, W_isNB, W_isN, W_isntB, W_isntN, W_eqI, W_neI, W_pass, W_brk, W_cont, W_drop, W_rt, W_rtN, W_ifS, W_gsNil, W_gsCons, W_gTup, W_aug, W_call, W_B, RtN_rt, RtN_nx, W_abs, W_intI, W_intB, W_noPart, W_part, W_sl, W_lm, W_lm0, W_iter, W_range1, W_range2, W_forE, W_revE, W_compE, W_yes, W_lenT, W_truB, W_truI, List.append_nil, List.getElem?_cons_zero, List.getElem?_cons_succ, List.set_cons_zero, List.set_cons_succ, List.getElem?_set_self, List.getElem?_set_ne, List.length_set, ne_eq, Nat.reduceEqDiff, not_false_eq_true, Nat.reduceLT, Nat.zero_ne_one, Nat.one_ne_zero, Nat.lt_add_one, Nat.zero_lt_succ, startD, List.map_cons, List.map_nil, List.length_cons, List.length_nil, List.cons_append, List.nil_append, Nat.reduceAdd, Nat.reduceSub, Nat.zero_add, List.replicate_succ, List.replicate_zero]
  rw [show (!((1 : Int) == 1)) = false from rfl]
  simp only [Bool.false_eq_true, if_false]
  try simp only [W_seq, W_asg, W_set, W_V, WV_some, W_C, W_op, W_cmpT, W_isB, W_un, W_tru, W_andT, W_orT, W_notT, W_andV, W_orV, W_notV, W_ife, W_nil, W_cons, W_tup, W_lst, W_addI, W_subI, W_iaddI, W_negI, W_mulI, W_fdivI, W_modI, W_powI, W_cmpI, W_isB_bl, W_isNB, W_isN, W_isntB, W_isntN, W_eqI, W_neI, W_pass, W_brk, W_cont, W_drop, W_rt, W_rtN, W_ifS, W_gsNil, W_gsCons, W_gTup, W_aug, W_call, W_B, RtN_rt, RtN_nx, W_abs, W_intI, W_intB, W_noPart, W_part, W_sl, W_lm, W_lm0, W_iter, W_range1, W_range2, W_forE, W_revE, W_compE, W_yes, W_lenT, W_truB, W_truI, List.append_nil, List.getElem?_cons_zero, List.getElem?_cons_succ, List.set_cons_zero, List.set_cons_succ, List.getElem?_set_self, List.getElem?_set_ne, List.length_set, ne_eq, Nat.reduceEqDiff, not_false_eq_true, Nat.reduceLT, Nat.zero_ne_one, Nat.one_ne_zero, Nat.lt_add_one, Nat.zero_lt_succ, startD, List.map_cons, List.map_nil, List.length_cons, List.length_nil, List.cons_append, List.nil_append, Nat.reduceAdd, Nat.reduceSub, Nat.zero_add, List.replicate_succ, List.replicate_zero]
  rw [W_ixT (d := .int m) rfl]
  try simp only [W_seq, W_asg, W_set, W_V, WV_some, W_C, W_op, W_cmpT, W_isB, W_un, W_tru, W_andT, W_orT, W_notT, W_andV, W_orV, W_notV, W_ife, W_nil, W_cons, W_tup, W_lst, W_addI, W_subI, W_iaddI, W_negI, W_mulI, W_fdivI, W_modI, W_powI, W_cmpI, W_isB_bl, W_isNB, W_isN, W_isntB, W_isntN, W_eqI, W_neI, W_pass, W_brk, W_cont, W_drop, W_rt, W_rtN, W_ifS, W_gsNil, W_gsCons, W_gTup, W_aug, W_call, W_B, RtN_rt, RtN_nx, W_abs, W_intI, W_intB, W_noPart, W_part, W_sl, W_lm, W_lm0, W_iter, W_range1, W_range2, W_forE, W_revE, W_compE, W_yes, W_lenT, W_truB, W_truI, List.append_nil, List.getElem?_cons_zero, List.getElem?_cons_succ, List.set_cons_zero, List.set_cons_succ, List.getElem?_set_self, List.getElem?_set_ne, List.length_set, ne_eq, Nat.reduceEqDiff, not_false_eq_true, Nat.reduceLT, Nat.zero_ne_one, Nat.one_ne_zero, Nat.lt_add_one, Nat.zero_lt_succ, startD, List.map_cons, List.map_nil, List.length_cons, List.length_nil, List.cons_append, List.nil_append, Nat.reduceAdd, Nat.reduceSub, Nat.zero_add, List.replicate_succ, List.replicate_zero, show decide (m < 1) = false by simp <;> omega, Bool.false_eq_true, if_false]
  rw [W_ixT (d := .int ia) rfl]
  try simp only [W_seq, W_asg, W_set, W_V, WV_some, W_C, W_op, W_cmpT, W_isB, W_un, W_tru, W_andT, W_orT, W_notT, W_andV, W_orV, W_notV, W_ife, W_nil, W_cons, W_tup, W_lst, W_addI, W_subI, W_iaddI, W_negI, W_mulI, W_fdivI, W_modI, W_powI, W_cmpI, W_isB_bl, W_isNB, W_isN, W_isntB, W_isntN, W_eqI, W_neI, W_pass, W_brk, W_cont, W_drop, W_rt, W_rtN, W_ifS, W_gsNil, W_gsCons, W_gTup, W_aug, W_call, W_B, RtN_rt, RtN_nx, W_abs, W_intI, W_intB, W_noPart, W_part, W_sl, W_lm, W_lm0, W_iter, W_range1, W_range2, W_forE, W_revE, W_compE, W_yes, W_lenT, W_truB, W_truI, List.append_nil, List.getElem?_cons_zero, List.getElem?_cons_succ, List.set_cons_zero, List.set_cons_succ, List.getElem?_set_self, List.getElem?_set_ne, List.length_set, ne_eq, Nat.reduceEqDiff, not_false_eq_true, Nat.reduceLT, Nat.zero_ne_one, Nat.one_ne_zero, Nat.lt_add_one, Nat.zero_lt_succ, startD, List.map_cons, List.map_nil, List.length_cons, List.length_nil, List.cons_append, List.nil_append, Nat.reduceAdd, Nat.reduceSub, Nat.zero_add, List.replicate_succ, List.replicate_zero]
  rw [W_ixT (d := .int m) rfl]
  try simp only [W_seq, W_asg, W_set, W_V, WV_some, W_C, W_op, W_cmpT, W_isB, W_un, W_tru, W_andT, W_orT, W_notT, W_andV, W_orV, W_notV, W_ife, W_nil, W_cons, W_tup, W_lst, W_addI, W_subI, W_iaddI, W_negI, W_mulI, W_fdivI, W_modI, W_powI, W_cmpI, W_isB_bl, W_isNB, W_isN, W_isntB, W_isntN, W_eqI, W_neI, W_pass, W_brk, W_cont, W_drop, W_rt, W_rtN, W_ifS, W_gsNil, W_gsCons, W_gTup, W_aug, W_call, W_B, RtN_rt, RtN_nx, W_abs, W_intI, W_intB, W_noPart, W_part, W_sl, W_lm, W_lm0, W_iter, W_range1, W_range2, W_forE, W_revE, W_compE, W_yes, W_lenT, W_truB, W_truI, List.append_nil, List.getElem?_cons_zero, List.getElem?_cons_succ, List.set_cons_zero, List.set_cons_succ, List.getElem?_set_self, List.getElem?_set_ne, List.length_set, ne_eq, Nat.reduceEqDiff, not_false_eq_true, Nat.reduceLT, Nat.zero_ne_one, Nat.one_ne_zero, Nat.lt_add_one, Nat.zero_lt_succ, startD, List.map_cons, List.map_nil, List.length_cons, List.length_nil, List.cons_append, List.nil_append, Nat.reduceAdd, Nat.reduceSub, Nat.zero_add, List.replicate_succ, List.replicate_zero]
  refine mci_law ht ?_
  try simp only [W_seq, W_asg, W_set, W_V, WV_some, W_C, W_op, W_cmpT, W_isB, W_un, W_tru, W_andT, W_orT, W_notT, W_andV, W_orV, W_notV, W_ife, W_nil, W_cons, W_tup, W_lst, W_addI, W_subI, W_iaddI, W_negI, W_mulI, W_fdivI, W_modI, W_powI, W_cmpI, W_isB_bl, W_isNB, W_isN, W_isntB, W_isntN, W_eqI, W_neI, W_pass, W_brk, W_cont, W_drop, W_rt, W_rtN, W_ifS, W_gsNil, W_gsCons, W_gTup, W_aug, W_call, W_B, RtN_rt, RtN_nx, W_abs, W_intI, W_intB, W_noPart, W_part, W_sl, W_lm, W_lm0, W_iter, W_range1, W_range2, W_forE, W_revE, W_compE, W_yes, W_lenT, W_truB, W_truI, List.append_nil, List.getElem?_cons_zero, List.getElem?_cons_succ, List.set_cons_zero, List.set_cons_succ, List.getElem?_set_self, List.getElem?_set_ne, List.length_set, ne_eq, Nat.reduceEqDiff, not_false_eq_true, Nat.reduceLT, Nat.zero_ne_one, Nat.one_ne_zero, Nat.lt_add_one, Nat.zero_lt_succ, startD, List.map_cons, List.map_nil, List.length_cons, List.length_nil, List.cons_append, List.nil_append, Nat.reduceAdd, Nat.reduceSub, Nat.zero_add, List.replicate_succ, List.replicate_zero]
  by_cases c : ia < mci t m
  · simp only [c, decide_true, if_true]
    try simp only [W_seq, W_asg, W_set, W_V, WV_some, W_C, W_op, W_cmpT, W_isB, W_un, W_tru, W_andT, W_orT, W_notT, W_andV, W_orV, W_notV, W_ife, W_nil, W_cons, W_tup, W_lst, W_addI, W_subI, W_iaddI, W_negI, W_mulI, W_fdivI, W_modI, W_powI, W_cmpI, W_isB_bl, W_isNB, W_isN, W_isntB, W_isntN, W_eqI, W_neI, W_pass, W_brk, W_cont, W_drop, W_rt, W_rtN, W_ifS, W_gsNil, W_gsCons, W_gTup, W_aug, W_call, W_B, RtN_rt, RtN_nx, W_abs, W_intI, W_intB, W_noPart, W_part, W_sl, W_lm, W_lm0, W_iter, W_range1, W_range2, W_forE, W_revE, W_compE, W_yes, W_lenT, W_truB, W_truI, List.append_nil, List.getElem?_cons_zero, List.getElem?_cons_succ, List.set_cons_zero, List.set_cons_succ, List.getElem?_set_self, List.getElem?_set_ne, List.length_set, ne_eq, Nat.reduceEqDiff, not_false_eq_true, Nat.reduceLT, Nat.zero_ne_one, Nat.one_ne_zero, Nat.lt_add_one, Nat.zero_lt_succ, startD, List.map_cons, List.map_nil, List.length_cons, List.length_nil, List.cons_append, List.nil_append, Nat.reduceAdd, Nat.reduceSub, Nat.zero_add, List.replicate_succ, List.replicate_zero]
    rw [show decide (mci t m ≤ ia) = false by simp <;> omega] at q
    exact q
  · rw [show decide (mci t m ≤ ia) = true by simp <;> omega] at q
    simp only [c, decide_false, Bool.false_eq_true, if_false]
    try simp only [W_seq, W_asg, W_set, W_V, WV_some, W_C, W_op, W_cmpT, W_isB, W_un, W_tru, W_andT, W_orT, W_notT, W_andV, W_orV, W_notV, W_ife, W_nil, W_cons, W_tup, W_lst, W_addI, W_subI, W_iaddI, W_negI, W_mulI, W_fdivI, W_modI, W_powI, W_cmpI, W_isB_bl, W_isNB, W_isN, W_isntB, W_isntN, W_eqI, W_neI, W_pass, W_brk, W_cont, W_drop, W_rt, W_rtN, W_ifS, W_gsNil, W_gsCons, W_gTup, W_aug, W_call, W_B, RtN_rt, RtN_nx, W_abs, W_intI, W_intB, W_noPart, W_part, W_sl, W_lm, W_lm0, W_iter, W_range1, W_range2, W_forE, W_revE, W_compE, W_yes, W_lenT, W_truB, W_truI, List.append_nil, List.getElem?_cons_zero, List.getElem?_cons_succ, List.set_cons_zero, List.set_cons_succ, List.getElem?_set_self, List.getElem?_set_ne, List.length_set, ne_eq, Nat.reduceEqDiff, not_false_eq_true, Nat.reduceLT, Nat.zero_ne_one, Nat.one_ne_zero, Nat.lt_add_one, Nat.zero_lt_succ, startD, List.map_cons, List.map_nil, List.length_cons, List.length_nil, List.cons_append, List.nil_append, Nat.reduceAdd, Nat.reduceSub, Nat.zero_add, List.replicate_succ, List.replicate_zero]
    rw [W_ixT (d := .int id') rfl]
    try simp only [W_seq, W_asg, W_set, W_V, WV_some, W_C, W_op, W_cmpT, W_isB, W_un, W_tru, W_andT, W_orT, W_notT, W_andV, W_orV, W_notV, W_ife, W_nil, W_cons, W_tup, W_lst, W_addI, W_subI, W_iaddI, W_negI, W_mulI, W_fdivI, W_modI, W_powI, W_cmpI, W_isB_bl, W_isNB, W_isN, W_isntB, W_isntN, W_eqI, W_neI, W_pass, W_brk, W_cont, W_drop, W_rt, W_rtN, W_ifS, W_gsNil, W_gsCons, W_gTup, W_aug, W_call, W_B, RtN_rt, RtN_nx, W_abs, W_intI, W_intB, W_noPart, W_part, W_sl, W_lm, W_lm0, W_iter, W_range1, W_range2, W_forE, W_revE, W_compE, W_yes, W_lenT, W_truB, W_truI, List.append_nil, List.getElem?_cons_zero, List.getElem?_cons_succ, List.set_cons_zero, List.set_cons_succ, List.getElem?_set_self, List.getElem?_set_ne, List.length_set, ne_eq, Nat.reduceEqDiff, not_false_eq_true, Nat.reduceLT, Nat.zero_ne_one, Nat.one_ne_zero, Nat.lt_add_one, Nat.zero_lt_succ, startD, List.map_cons, List.map_nil, List.length_cons, List.length_nil, List.cons_append, List.nil_append, Nat.reduceAdd, Nat.reduceSub, Nat.zero_add, List.replicate_succ, List.replicate_zero]
    rw [W_ixT (d := .int d) rfl]
    try simp only [W_seq, W_asg, W_set, W_V, WV_some, W_C, W_op, W_cmpT, W_isB, W_un, W_tru, W_andT, W_orT, W_notT, W_andV, W_orV, W_notV, W_ife, W_nil, W_cons, W_tup, W_lst, W_addI, W_subI, W_iaddI, W_negI, W_mulI, W_fdivI, W_modI, W_powI, W_cmpI, W_isB_bl, W_isNB, W_isN, W_isntB, W_isntN, W_eqI, W_neI, W_pass, W_brk, W_cont, W_drop, W_rt, W_rtN, W_ifS, W_gsNil, W_gsCons, W_gTup, W_aug, W_call, W_B, RtN_rt, RtN_nx, W_abs, W_intI, W_intB, W_noPart, W_part, W_sl, W_lm, W_lm0, W_iter, W_range1, W_range2, W_forE, W_revE, W_compE, W_yes, W_lenT, W_truB, W_truI, List.append_nil, List.getElem?_cons_zero, List.getElem?_cons_succ, List.set_cons_zero, List.set_cons_succ, List.getElem?_set_self, List.getElem?_set_ne, List.length_set, ne_eq, Nat.reduceEqDiff, not_false_eq_true, Nat.reduceLT, Nat.zero_ne_one, Nat.one_ne_zero, Nat.lt_add_one, Nat.zero_lt_succ, startD, List.map_cons, List.map_nil, List.length_cons, List.length_nil, List.cons_append, List.nil_append, Nat.reduceAdd, Nat.reduceSub, Nat.zero_add, List.replicate_succ, List.replicate_zero]
    rw [show tD t = .tup [.int t.1, .int t.2.1, .int t.2.2] from rfl, W_ixT (d := .int t.2.2) rfl]
    try simp only [W_seq, W_asg, W_set, W_V, WV_some, W_C, W_op, W_cmpT, W_isB, W_un, W_tru, W_andT, W_orT, W_notT, W_andV, W_orV, W_notV, W_ife, W_nil, W_cons, W_tup, W_lst, W_addI, W_subI, W_iaddI, W_negI, W_mulI, W_fdivI, W_modI, W_powI, W_cmpI, W_isB_bl, W_isNB, W_isN, W_isntB, W_isntN, W_eqI, W_neI, W_pass, W_brk, W_cont, W_drop, W_rt, W_rtN, W_ifS, W_gsNil, W_gsCons, W_gTup, W_aug, W_call, W_B, RtN_rt, RtN_nx, W_abs, W_intI, W_intB, W_noPart, W_part, W_sl, W_lm, W_lm0, W_iter, W_range1, W_range2, W_forE, W_revE, W_compE, W_yes, W_lenT, W_truB, W_truI, List.append_nil, List.getElem?_cons_zero, List.getElem?_cons_succ, List.set_cons_zero, List.set_cons_succ, List.getElem?_set_self, List.getElem?_set_ne, List.length_set, ne_eq, Nat.reduceEqDiff, not_false_eq_true, Nat.reduceLT, Nat.zero_ne_one, Nat.one_ne_zero, Nat.lt_add_one, Nat.zero_lt_succ, startD, List.map_cons, List.map_nil, List.length_cons, List.length_nil, List.cons_append, List.nil_append, Nat.reduceAdd, Nat.reduceSub, Nat.zero_add, List.replicate_succ, List.replicate_zero]
    by_cases c2 : d + t.2.2 ≤ id'
    · simp only [c2, decide_true, if_true]
      try simp only [W_seq, W_asg, W_set, W_V, WV_some, W_C, W_op, W_cmpT, W_isB, W_un, W_tru, W_andT, W_orT, W_notT, W_andV, W_orV, W_notV, W_ife, W_nil, W_cons, W_tup, W_lst, W_addI, W_subI, W_iaddI, W_negI, W_mulI, W_fdivI, W_modI, W_powI, W_cmpI, W_isB_bl, W_isNB, W_isN, W_isntB, W_isntN, W_eqI, W_neI, W_pass, W_brk, W_cont, W_drop, W_rt, W_rtN, W_ifS, W_gsNil, W_gsCons, W_gTup, W_aug, W_call, W_B, RtN_rt, RtN_nx, W_abs, W_intI, W_intB, W_noPart, W_part, W_sl, W_lm, W_lm0, W_iter, W_range1, W_range2, W_forE, W_revE, W_compE, W_yes, W_lenT, W_truB, W_truI, List.append_nil, List.getElem?_cons_zero, List.getElem?_cons_succ, List.set_cons_zero, List.set_cons_succ, List.getElem?_set_self, List.getElem?_set_ne, List.length_set, ne_eq, Nat.reduceEqDiff, not_false_eq_true, Nat.reduceLT, Nat.zero_ne_one, Nat.one_ne_zero, Nat.lt_add_one, Nat.zero_lt_succ, startD, List.map_cons, List.map_nil, List.length_cons, List.length_nil, List.cons_append, List.nil_append, Nat.reduceAdd, Nat.reduceSub, Nat.zero_add, List.replicate_succ, List.replicate_zero]
      rw [W_ixT (d := .int d) rfl]
      try simp only [W_seq, W_asg, W_set, W_V, WV_some, W_C, W_op, W_cmpT, W_isB, W_un, W_tru, W_andT, W_orT, W_notT, W_andV, W_orV, W_notV, W_ife, W_nil, W_cons, W_tup, W_lst, W_addI, W_subI, W_iaddI, W_negI, W_mulI, W_fdivI, W_modI, W_powI, W_cmpI, W_isB_bl, W_isNB, W_isN, W_isntB, W_isntN, W_eqI, W_neI, W_pass, W_brk, W_cont, W_drop, W_rt, W_rtN, W_ifS, W_gsNil, W_gsCons, W_gTup, W_aug, W_call, W_B, RtN_rt, RtN_nx, W_abs, W_intI, W_intB, W_noPart, W_part, W_sl, W_lm, W_lm0, W_iter, W_range1, W_range2, W_forE, W_revE, W_compE, W_yes, W_lenT, W_truB, W_truI, List.append_nil, List.getElem?_cons_zero, List.getElem?_cons_succ, List.set_cons_zero, List.set_cons_succ, List.getElem?_set_self, List.getElem?_set_ne, List.length_set, ne_eq, Nat.reduceEqDiff, not_false_eq_true, Nat.reduceLT, Nat.zero_ne_one, Nat.one_ne_zero, Nat.lt_add_one, Nat.zero_lt_succ, startD, List.map_cons, List.map_nil, List.length_cons, List.length_nil, List.cons_append, List.nil_append, Nat.reduceAdd, Nat.reduceSub, Nat.zero_add, List.replicate_succ, List.replicate_zero]
      simpa [c2] using q
    · simp only [c2, decide_false, Bool.false_eq_true, if_false]
      try simp only [W_seq, W_asg, W_set, W_V, WV_some, W_C, W_op, W_cmpT, W_isB, W_un, W_tru, W_andT, W_orT, W_notT, W_andV, W_orV, W_notV, W_ife, W_nil, W_cons, W_tup, W_lst, W_addI, W_subI, W_iaddI, W_negI, W_mulI, W_fdivI, W_modI, W_powI, W_cmpI, W_isB_bl, W_isNB, W_isN, W_isntB, W_isntN, W_eqI, W_neI, W_pass, W_brk, W_cont, W_drop, W_rt, W_rtN, W_ifS, W_gsNil, W_gsCons, W_gTup, W_aug, W_call, W_B, RtN_rt, RtN_nx, W_abs, W_intI, W_intB, W_noPart, W_part, W_sl, W_lm, W_lm0, W_iter, W_range1, W_range2, W_forE, W_revE, W_compE, W_yes, W_lenT, W_truB, W_truI, List.append_nil, List.getElem?_cons_zero, List.getElem?_cons_succ, List.set_cons_zero, List.set_cons_succ, List.getElem?_set_self, List.getElem?_set_ne, List.length_set, ne_eq, Nat.reduceEqDiff, not_false_eq_true, Nat.reduceLT, Nat.zero_ne_one, Nat.one_ne_zero, Nat.lt_add_one, Nat.zero_lt_succ, startD, List.map_cons, List.map_nil, List.length_cons, List.length_nil, List.cons_append, List.nil_append, Nat.reduceAdd, Nat.reduceSub, Nat.zero_add, List.replicate_succ, List.replicate_zero]
      simpa [c2] using q
theorem ceil_fact (m b : Int) (hb : 0 ≤ b) : (m * b + 999) / 1000 = -((-m * b) / 1000) ∧ ((m - 1) * b + 999) / 1000 ≤ (m * b + 999) / 1000 := by
  rw [Int.neg_mul, Int.sub_mul]
  refine ⟨by omega, by omega⟩
def tup3 (t : Int × Int × Int) : D := .tup [.int t.1, .int t.2.1, .int t.2.2]
theorem rp_rows {h : Hd} {n : Nat} {rs : List (Int × Int)} (hn : 2 ≤ n) (e : h[n]? = some (.lst (rs.map rD))) (hl : rs.length ≤ 21) : Rp 2 21 h 3 (.ref n) (.list (rs.map rP)) :=
  ⟨n, _, rfl, ⟨hn, by omega⟩, e, by simpa using hl, All2.map (fun c => ⟨_, rfl, by show 2 ≤ 21; decide, .cons rfl (.cons rfl .nil)⟩) rs⟩
theorem law_2 {σ : Ev} {h : Hd} {Q : Fl → Hd → Prop} (sl : σ.length = 18) (s1 : σ[1]? = some (some (.ref 1))) (hd : Dk h)
    (q : ∀ σ' h', σ'.length = 18 → σ'[1]? = some (some (.ref 1)) → Dk h' → Q (.nx σ') h') : W (L_law_2 σ) h Q := by
  unfold L_law_2
  try simp only [W_seq, W_asg, W_set, W_V, WV_some, W_C, W_op, W_cmpT, W_isB, W_un, W_tru, W_andT, W_orT, W_notT, W_andV, W_orV, W_notV, W_ife, W_nil, W_cons, W_tup, W_lst, W_addI, W_subI, W_iaddI, W_negI, W_mulI, W_fdivI, W_modI, W_powI, W_cmpI, W_isB_bl, W_isNB, W_isN, W_isntB, W_isntN, W_eqI, W_neI, W_pass, W_brk, W_cont, W_drop, W_rt, W_rtN, W_ifS, W_gsNil, W_gsCons, W_gTup, W_aug, W_call, W_B, RtN_rt, RtN_nx, W_abs, W_intI, W_intB, W_noPart, W_part, W_sl, W_lm, W_lm0, W_iter, W_range1, W_range2, W_forE, W_revE, W_compE, W_yes, W_lenT, W_truB, W_truI, List.append_nil, List.getElem?_cons_zero, List.getElem?_cons_succ, List.set_cons_zero, List.set_cons_succ, List.getElem?_set_self, List.getElem?_set_ne, List.length_set, ne_eq, Nat.reduceEqDiff, not_false_eq_true, Nat.reduceLT, Nat.zero_ne_one, Nat.one_ne_zero, Nat.lt_add_one, Nat.zero_lt_succ, startD, List.map_cons, List.map_nil, List.length_cons, List.length_nil, List.cons_append, List.nil_append, Nat.reduceAdd, Nat.reduceSub, Nat.zero_add, List.replicate_succ, List.replicate_zero, sl, s1]
  refine take_law hd (by decide) fun cnt h1 c0 c1 F1 hd1 => ?_
  try simp only [W_seq, W_asg, W_set, W_V, WV_some, W_C, W_op, W_cmpT, W_isB, W_un, W_tru, W_andT, W_orT, W_notT, W_andV, W_orV, W_notV, W_ife, W_nil, W_cons, W_tup, W_lst, W_addI, W_subI, W_iaddI, W_negI, W_mulI, W_fdivI, W_modI, W_powI, W_cmpI, W_isB_bl, W_isNB, W_isN, W_isntB, W_isntN, W_eqI, W_neI, W_pass, W_brk, W_cont, W_drop, W_rt, W_rtN, W_ifS, W_gsNil, W_gsCons, W_gTup, W_aug, W_call, W_B, RtN_rt, RtN_nx, W_abs, W_intI, W_intB, W_noPart, W_part, W_sl, W_lm, W_lm0, W_iter, W_range1, W_range2, W_forE, W_revE, W_compE, W_yes, W_lenT, W_truB, W_truI, List.append_nil, List.getElem?_cons_zero, List.getElem?_cons_succ, List.set_cons_zero, List.set_cons_succ, List.getElem?_set_self, List.getElem?_set_ne, List.length_set, ne_eq, Nat.reduceEqDiff, not_false_eq_true, Nat.reduceLT, Nat.zero_ne_one, Nat.one_ne_zero, Nat.lt_add_one, Nat.zero_lt_succ, startD, List.map_cons, List.map_nil, List.length_cons, List.length_nil, List.cons_append, List.nil_append, Nat.reduceAdd, Nat.reduceSub, Nat.zero_add, List.replicate_succ, List.replicate_zero]
  refine ⟨_, rfl, by omega, ?_⟩
  refine w_compN (fun _ _ x => ∃ t : Tl, okS t ∧ x = tD t) rfl (by omega) hd1.lt (fun _ _ _ _ p _ => p) ?_ ?_
  · intro i h2 hi F2
    try simp only [W_seq, W_asg, W_set, W_V, WV_some, W_C, W_op, W_cmpT, W_isB, W_un, W_tru, W_andT, W_orT, W_notT, W_andV, W_orV, W_notV, W_ife, W_nil, W_cons, W_tup, W_lst, W_addI, W_subI, W_iaddI, W_negI, W_mulI, W_fdivI, W_modI, W_powI, W_cmpI, W_isB_bl, W_isNB, W_isN, W_isntB, W_isntN, W_eqI, W_neI, W_pass, W_brk, W_cont, W_drop, W_rt, W_rtN, W_ifS, W_gsNil, W_gsCons, W_gTup, W_aug, W_call, W_B, RtN_rt, RtN_nx, W_abs, W_intI, W_intB, W_noPart, W_part, W_sl, W_lm, W_lm0, W_iter, W_range1, W_range2, W_forE, W_revE, W_compE, W_yes, W_lenT, W_truB, W_truI, List.append_nil, List.getElem?_cons_zero, List.getElem?_cons_succ, List.set_cons_zero, List.set_cons_succ, List.getElem?_set_self, List.getElem?_set_ne, List.length_set, ne_eq, Nat.reduceEqDiff, not_false_eq_true, Nat.reduceLT, Nat.zero_ne_one, Nat.one_ne_zero, Nat.lt_add_one, Nat.zero_lt_succ, startD, List.map_cons, List.map_nil, List.length_cons, List.length_nil, List.cons_append, List.nil_append, Nat.reduceAdd, Nat.reduceSub, Nat.zero_add, List.replicate_succ, List.replicate_zero, sl, s1, wipeD]
    refine take_law (F2.dk hd1) (by decide) fun a h3 a0 a1 F3 hd3 => ?_
    try simp only [W_seq, W_asg, W_set, W_V, WV_some, W_C, W_op, W_cmpT, W_isB, W_un, W_tru, W_andT, W_orT, W_notT, W_andV, W_orV, W_notV, W_ife, W_nil, W_cons, W_tup, W_lst, W_addI, W_subI, W_iaddI, W_negI, W_mulI, W_fdivI, W_modI, W_powI, W_cmpI, W_isB_bl, W_isNB, W_isN, W_isntB, W_isntN, W_eqI, W_neI, W_pass, W_brk, W_cont, W_drop, W_rt, W_rtN, W_ifS, W_gsNil, W_gsCons, W_gTup, W_aug, W_call, W_B, RtN_rt, RtN_nx, W_abs, W_intI, W_intB, W_noPart, W_part, W_sl, W_lm, W_lm0, W_iter, W_range1, W_range2, W_forE, W_revE, W_compE, W_yes, W_lenT, W_truB, W_truI, List.append_nil, List.getElem?_cons_zero, List.getElem?_cons_succ, List.set_cons_zero, List.set_cons_succ, List.getElem?_set_self, List.getElem?_set_ne, List.length_set, ne_eq, Nat.reduceEqDiff, not_false_eq_true, Nat.reduceLT, Nat.zero_ne_one, Nat.one_ne_zero, Nat.lt_add_one, Nat.zero_lt_succ, startD, List.map_cons, List.map_nil, List.length_cons, List.length_nil, List.cons_append, List.nil_append, Nat.reduceAdd, Nat.reduceSub, Nat.zero_add, List.replicate_succ, List.replicate_zero, sl, s1]
    refine take_law hd3 (by decide) fun b h4 b0 b1 F4 hd4 => ?_
    try simp only [W_seq, W_asg, W_set, W_V, WV_some, W_C, W_op, W_cmpT, W_isB, W_un, W_tru, W_andT, W_orT, W_notT, W_andV, W_orV, W_notV, W_ife, W_nil, W_cons, W_tup, W_lst, W_addI, W_subI, W_iaddI, W_negI, W_mulI, W_fdivI, W_modI, W_powI, W_cmpI, W_isB_bl, W_isNB, W_isN, W_isntB, W_isntN, W_eqI, W_neI, W_pass, W_brk, W_cont, W_drop, W_rt, W_rtN, W_ifS, W_gsNil, W_gsCons, W_gTup, W_aug, W_call, W_B, RtN_rt, RtN_nx, W_abs, W_intI, W_intB, W_noPart, W_part, W_sl, W_lm, W_lm0, W_iter, W_range1, W_range2, W_forE, W_revE, W_compE, W_yes, W_lenT, W_truB, W_truI, List.append_nil, List.getElem?_cons_zero, List.getElem?_cons_succ, List.set_cons_zero, List.set_cons_succ, List.getElem?_set_self, List.getElem?_set_ne, List.length_set, ne_eq, Nat.reduceEqDiff, not_false_eq_true, Nat.reduceLT, Nat.zero_ne_one, Nat.one_ne_zero, Nat.lt_add_one, Nat.zero_lt_succ, startD, List.map_cons, List.map_nil, List.length_cons, List.length_nil, List.cons_append, List.nil_append, Nat.reduceAdd, Nat.reduceSub, Nat.zero_add, List.replicate_succ, List.replicate_zero, sl, s1]
    refine take_law hd4 (by decide) fun c h5 c0 c1 F5 hd5 => ?_
    try simp only [W_seq, W_asg, W_set, W_V, WV_some, W_C, W_op, W_cmpT, W_isB, W_un, W_tru, W_andT, W_orT, W_notT, W_andV, W_orV, W_notV, W_ife, W_nil, W_cons, W_tup, W_lst, W_addI, W_subI, W_iaddI, W_negI, W_mulI, W_fdivI, W_modI, W_powI, W_cmpI, W_isB_bl, W_isNB, W_isN, W_isntB, W_isntN, W_eqI, W_neI, W_pass, W_brk, W_cont, W_drop, W_rt, W_rtN, W_ifS, W_gsNil, W_gsCons, W_gTup, W_aug, W_call, W_B, RtN_rt, RtN_nx, W_abs, W_intI, W_intB, W_noPart, W_part, W_sl, W_lm, W_lm0, W_iter, W_range1, W_range2, W_forE, W_revE, W_compE, W_yes, W_lenT, W_truB, W_truI, List.append_nil, List.getElem?_cons_zero, List.getElem?_cons_succ, List.set_cons_zero, List.set_cons_succ, List.getElem?_set_self, List.getElem?_set_ne, List.length_set, ne_eq, Nat.reduceEqDiff, not_false_eq_true, Nat.reduceLT, Nat.zero_ne_one, Nat.one_ne_zero, Nat.lt_add_one, Nat.zero_lt_succ, startD, List.map_cons, List.map_nil, List.length_cons, List.length_nil, List.cons_append, List.nil_append, Nat.reduceAdd, Nat.reduceSub, Nat.zero_add, List.replicate_succ, List.replicate_zero, sl, s1]
    exact ⟨by decide, (F3.trans F4).trans F5, (a, b, c), ⟨⟨⟨a0, a1⟩, ⟨b0, Int.lt_trans b1 (by decide)⟩, c0, c1⟩, b1⟩, rfl⟩
  intro h2 xs F2 ex lx px
  obtain ⟨ts, rfl, ok⟩ := lift_list px
  have hd2 := F2.dk hd1
  have tl : ts.length ≤ 12 := by simp at lx; omega
  have r2 := hd1.lt
  generalize ht0 : h1.length = t0 at ex r2
  have ht1 : t0 ≠ 1 := by omega
  clear px lx F2 F1 hd ht0
  try simp only [W_seq, W_asg, W_set, W_V, WV_some, W_C, W_op, W_cmpT, W_isB, W_un, W_tru, W_andT, W_orT, W_notT, W_andV, W_orV, W_notV, W_ife, W_nil, W_cons, W_tup, W_lst, W_addI, W_subI, W_iaddI, W_negI, W_mulI, W_fdivI, W_modI, W_powI, W_cmpI, W_isB_bl, W_isNB, W_isN, W_isntB, W_isntN, W_eqI, W_neI, W_pass, W_brk, W_cont, W_drop, W_rt, W_rtN, W_ifS, W_gsNil, W_gsCons, W_gTup, W_aug, W_call, W_B, RtN_rt, RtN_nx, W_abs, W_intI, W_intB, W_noPart, W_part, W_sl, W_lm, W_lm0, W_iter, W_range1, W_range2, W_forE, W_revE, W_compE, W_yes, W_lenT, W_truB, W_truI, List.append_nil, List.getElem?_cons_zero, List.getElem?_cons_succ, List.set_cons_zero, List.set_cons_succ, List.getElem?_set_self, List.getElem?_set_ne, List.length_set, ne_eq, Nat.reduceEqDiff, not_false_eq_true, Nat.reduceLT, Nat.zero_ne_one, Nat.one_ne_zero, Nat.lt_add_one, Nat.zero_lt_succ, startD, List.map_cons, List.map_nil, List.length_cons, List.length_nil, List.cons_append, List.nil_append, Nat.reduceAdd, Nat.reduceSub, Nat.zero_add, List.replicate_succ, List.replicate_zero, sl, s1]
  refine take_law hd2 (by decide) fun am h3 a0 a1 F3 hd3 => ?_
  have ex := F3.keep ex (by simp) ht1
  try simp only [W_seq, W_asg, W_set, W_V, WV_some, W_C, W_op, W_cmpT, W_isB, W_un, W_tru, W_andT, W_orT, W_notT, W_andV, W_orV, W_notV, W_ife, W_nil, W_cons, W_tup, W_lst, W_addI, W_subI, W_iaddI, W_negI, W_mulI, W_fdivI, W_modI, W_powI, W_cmpI, W_isB_bl, W_isNB, W_isN, W_isntB, W_isntN, W_eqI, W_neI, W_pass, W_brk, W_cont, W_drop, W_rt, W_rtN, W_ifS, W_gsNil, W_gsCons, W_gTup, W_aug, W_call, W_B, RtN_rt, RtN_nx, W_abs, W_intI, W_intB, W_noPart, W_part, W_sl, W_lm, W_lm0, W_iter, W_range1, W_range2, W_forE, W_revE, W_compE, W_yes, W_lenT, W_truB, W_truI, List.append_nil, List.getElem?_cons_zero, List.getElem?_cons_succ, List.set_cons_zero, List.set_cons_succ, List.getElem?_set_self, List.getElem?_set_ne, List.length_set, ne_eq, Nat.reduceEqDiff, not_false_eq_true, Nat.reduceLT, Nat.zero_ne_one, Nat.one_ne_zero, Nat.lt_add_one, Nat.zero_lt_succ, startD, List.map_cons, List.map_nil, List.length_cons, List.length_nil, List.cons_append, List.nil_append, Nat.reduceAdd, Nat.reduceSub, Nat.zero_add, List.replicate_succ, List.replicate_zero, sl, s1]
  refine take_law hd3 (by decide) fun dl h4 d0 d1 F4 hd4 => ?_
  have ex := F4.keep ex (by simp) ht1
  try simp only [W_seq, W_asg, W_set, W_V, WV_some, W_C, W_op, W_cmpT, W_isB, W_un, W_tru, W_andT, W_orT, W_notT, W_andV, W_orV, W_notV, W_ife, W_nil, W_cons, W_tup, W_lst, W_addI, W_subI, W_iaddI, W_negI, W_mulI, W_fdivI, W_modI, W_powI, W_cmpI, W_isB_bl, W_isNB, W_isN, W_isntB, W_isntN, W_eqI, W_neI, W_pass, W_brk, W_cont, W_drop, W_rt, W_rtN, W_ifS, W_gsNil, W_gsCons, W_gTup, W_aug, W_call, W_B, RtN_rt, RtN_nx, W_abs, W_intI, W_intB, W_noPart, W_part, W_sl, W_lm, W_lm0, W_iter, W_range1, W_range2, W_forE, W_revE, W_compE, W_yes, W_lenT, W_truB, W_truI, List.append_nil, List.getElem?_cons_zero, List.getElem?_cons_succ, List.set_cons_zero, List.set_cons_succ, List.getElem?_set_self, List.getElem?_set_ne, List.length_set, ne_eq, Nat.reduceEqDiff, not_false_eq_true, Nat.reduceLT, Nat.zero_ne_one, Nat.one_ne_zero, Nat.lt_add_one, Nat.zero_lt_succ, startD, List.map_cons, List.map_nil, List.length_cons, List.length_nil, List.cons_append, List.nil_append, Nat.reduceAdd, Nat.reduceSub, Nat.zero_add, List.replicate_succ, List.replicate_zero, sl, s1]
  rw [W_listL ex]
  try simp only [W_seq, W_asg, W_set, W_V, WV_some, W_C, W_op, W_cmpT, W_isB, W_un, W_tru, W_andT, W_orT, W_notT, W_andV, W_orV, W_notV, W_ife, W_nil, W_cons, W_tup, W_lst, W_addI, W_subI, W_iaddI, W_negI, W_mulI, W_fdivI, W_modI, W_powI, W_cmpI, W_isB_bl, W_isNB, W_isN, W_isntB, W_isntN, W_eqI, W_neI, W_pass, W_brk, W_cont, W_drop, W_rt, W_rtN, W_ifS, W_gsNil, W_gsCons, W_gTup, W_aug, W_call, W_B, RtN_rt, RtN_nx, W_abs, W_intI, W_intB, W_noPart, W_part, W_sl, W_lm, W_lm0, W_iter, W_range1, W_range2, W_forE, W_revE, W_compE, W_yes, W_lenT, W_truB, W_truI, List.append_nil, List.getElem?_cons_zero, List.getElem?_cons_succ, List.set_cons_zero, List.set_cons_succ, List.getElem?_set_self, List.getElem?_set_ne, List.length_set, ne_eq, Nat.reduceEqDiff, not_false_eq_true, Nat.reduceLT, Nat.zero_ne_one, Nat.one_ne_zero, Nat.lt_add_one, Nat.zero_lt_succ, startD, List.map_cons, List.map_nil, List.length_cons, List.length_nil, List.cons_append, List.nil_append, Nat.reduceAdd, Nat.reduceSub, Nat.zero_add, List.replicate_succ, List.replicate_zero, sl, s1]
  have okT' : ∀ t ∈ ts, okT t := fun t z => (ok t z).1
  have bnd : ∀ (k : Nat), 1 ≤ (hdP (1 + am) (5 + dl) (ts.drop k)).1 ∧ 5 ≤ (hdP (1 + am) (5 + dl) (ts.drop k)).2 ∧ (hdP (1 + am) (5 + dl) (ts.drop k)).1 ≤ 1000000000000000 := fun k => by
    obtain ⟨u, v, x⟩ := hd_bound (1 + am) (5 + dl) (by omega) (by omega) (ts.drop k) fun t z => ok t (List.mem_of_mem_drop z)
    refine ⟨by omega, by omega, ?_⟩
    have e1 : (2 : Int) ^ (ts.drop k).length ≤ 2 ^ 12 := by
      have : (2 : Nat) ^ (ts.drop k).length ≤ 2 ^ 12 := Nat.pow_le_pow_right (by decide) (by simp <;> omega)
      exact_mod_cast this
    have e2 : (1 + am + 32) * 2 ^ (ts.drop k).length ≤ (1 + am + 32) * 2 ^ 12 := Int.mul_le_mul_of_nonneg_left e1 (by omega)
    have e3 : (2 : Int) ^ 12 = 4096 := by decide
    omega
  refine legs_law (ts := ts) get_push (by have := hd4.lt; omega) okT' (by omega) (fun k _ => (bnd k).2.2) (by have := hd4.lt; simp; omega) fun h5 w0 F5 w2 ew => ?_
  have hd5 := F5.dk (Fr.push (S := []).dk hd4)
  have ex := F5.keep (get_pushL ex) (by simp) ht1
  try simp only [W_seq, W_asg, W_set, W_V, WV_some, W_C, W_op, W_cmpT, W_isB, W_un, W_tru, W_andT, W_orT, W_notT, W_andV, W_orV, W_notV, W_ife, W_nil, W_cons, W_tup, W_lst, W_addI, W_subI, W_iaddI, W_negI, W_mulI, W_fdivI, W_modI, W_powI, W_cmpI, W_isB_bl, W_isNB, W_isN, W_isntB, W_isntN, W_eqI, W_neI, W_pass, W_brk, W_cont, W_drop, W_rt, W_rtN, W_ifS, W_gsNil, W_gsCons, W_gTup, W_aug, W_call, W_B, RtN_rt, RtN_nx, W_abs, W_intI, W_intB, W_noPart, W_part, W_sl, W_lm, W_lm0, W_iter, W_range1, W_range2, W_forE, W_revE, W_compE, W_yes, W_lenT, W_truB, W_truI, List.append_nil, List.getElem?_cons_zero, List.getElem?_cons_succ, List.set_cons_zero, List.set_cons_succ, List.getElem?_set_self, List.getElem?_set_ne, List.length_set, ne_eq, Nat.reduceEqDiff, not_false_eq_true, Nat.reduceLT, Nat.zero_ne_one, Nat.one_ne_zero, Nat.lt_add_one, Nat.zero_lt_succ, startD, List.map_cons, List.map_nil, List.length_cons, List.length_nil, List.cons_append, List.nil_append, Nat.reduceAdd, Nat.reduceSub, Nat.zero_add, List.replicate_succ, List.replicate_zero, sl, s1]
  rw [W_lenM ex]
  try simp only [W_seq, W_asg, W_set, W_V, WV_some, W_C, W_op, W_cmpT, W_isB, W_un, W_tru, W_andT, W_orT, W_notT, W_andV, W_orV, W_notV, W_ife, W_nil, W_cons, W_tup, W_lst, W_addI, W_subI, W_iaddI, W_negI, W_mulI, W_fdivI, W_modI, W_powI, W_cmpI, W_isB_bl, W_isNB, W_isN, W_isntB, W_isntN, W_eqI, W_neI, W_pass, W_brk, W_cont, W_drop, W_rt, W_rtN, W_ifS, W_gsNil, W_gsCons, W_gTup, W_aug, W_call, W_B, RtN_rt, RtN_nx, W_abs, W_intI, W_intB, W_noPart, W_part, W_sl, W_lm, W_lm0, W_iter, W_range1, W_range2, W_forE, W_revE, W_compE, W_yes, W_lenT, W_truB, W_truI, List.append_nil, List.getElem?_cons_zero, List.getElem?_cons_succ, List.set_cons_zero, List.set_cons_succ, List.getElem?_set_self, List.getElem?_set_ne, List.length_set, ne_eq, Nat.reduceEqDiff, not_false_eq_true, Nat.reduceLT, Nat.zero_ne_one, Nat.one_ne_zero, Nat.lt_add_one, Nat.zero_lt_succ, startD, List.map_cons, List.map_nil, List.length_cons, List.length_nil, List.cons_append, List.nil_append, Nat.reduceAdd, Nat.reduceSub, Nat.zero_add, List.replicate_succ, List.replicate_zero, sl, s1, List.length_map]
  refine take_law hd5 (by omega) fun cut h6 c0 c1 F6 hd6 => ?_
  have ex := F6.keep ex (by simp) ht1
  have ew := F6.keep ew (by simp) (by omega)

  obtain ⟨cu, rfl⟩ := Int.eq_ofNat_of_zero_le c0
  have cl : cu ≤ ts.length := by omega
  try simp only [W_seq, W_asg, W_set, W_V, WV_some, W_C, W_op, W_cmpT, W_isB, W_un, W_tru, W_andT, W_orT, W_notT, W_andV, W_orV, W_notV, W_ife, W_nil, W_cons, W_tup, W_lst, W_addI, W_subI, W_iaddI, W_negI, W_mulI, W_fdivI, W_modI, W_powI, W_cmpI, W_isB_bl, W_isNB, W_isN, W_isntB, W_isntN, W_eqI, W_neI, W_pass, W_brk, W_cont, W_drop, W_rt, W_rtN, W_ifS, W_gsNil, W_gsCons, W_gTup, W_aug, W_call, W_B, RtN_rt, RtN_nx, W_abs, W_intI, W_intB, W_noPart, W_part, W_sl, W_lm, W_lm0, W_iter, W_range1, W_range2, W_forE, W_revE, W_compE, W_yes, W_lenT, W_truB, W_truI, List.append_nil, List.getElem?_cons_zero, List.getElem?_cons_succ, List.set_cons_zero, List.set_cons_succ, List.getElem?_set_self, List.getElem?_set_ne, List.length_set, ne_eq, Nat.reduceEqDiff, not_false_eq_true, Nat.reduceLT, Nat.zero_ne_one, Nat.one_ne_zero, Nat.lt_add_one, Nat.zero_lt_succ, startD, List.map_cons, List.map_nil, List.length_cons, List.length_nil, List.cons_append, List.nil_append, Nat.reduceAdd, Nat.reduceSub, Nat.zero_add, List.replicate_succ, List.replicate_zero, sl, s1]
  refine ⟨_, rfl, ?_⟩
  try simp only [W_seq, W_asg, W_set, W_V, WV_some, W_C, W_op, W_cmpT, W_isB, W_un, W_tru, W_andT, W_orT, W_notT, W_andV, W_orV, W_notV, W_ife, W_nil, W_cons, W_tup, W_lst, W_addI, W_subI, W_iaddI, W_negI, W_mulI, W_fdivI, W_modI, W_powI, W_cmpI, W_isB_bl, W_isNB, W_isN, W_isntB, W_isntN, W_eqI, W_neI, W_pass, W_brk, W_cont, W_drop, W_rt, W_rtN, W_ifS, W_gsNil, W_gsCons, W_gTup, W_aug, W_call, W_B, RtN_rt, RtN_nx, W_abs, W_intI, W_intB, W_noPart, W_part, W_sl, W_lm, W_lm0, W_iter, W_range1, W_range2, W_forE, W_revE, W_compE, W_yes, W_lenT, W_truB, W_truI, List.append_nil, List.getElem?_cons_zero, List.getElem?_cons_succ, List.set_cons_zero, List.set_cons_succ, List.getElem?_set_self, List.getElem?_set_ne, List.length_set, ne_eq, Nat.reduceEqDiff, not_false_eq_true, Nat.reduceLT, Nat.zero_ne_one, Nat.one_ne_zero, Nat.lt_add_one, Nat.zero_lt_succ, startD, List.map_cons, List.map_nil, List.length_cons, List.length_nil, List.cons_append, List.nil_append, Nat.reduceAdd, Nat.reduceSub, Nat.zero_add, List.replicate_succ, List.replicate_zero, sl, s1]
  rw [W_slL ex]
  have sc1 : cutD (ts.map tD) (some ((cu : Nat) : Int)) none = (ts.drop cu).map tD := by
    unfold cutD
    rw [HT.sIx_nat, HT.sIx_none, Nat.min_eq_left (by simpa using cl), List.length_map, ← List.map_drop, List.take_of_length_le (by simp)]
  have sc2 : cutD (ts.map tD) none (some ((cu : Nat) : Int)) = (ts.take cu).map tD := by
    unfold cutD
    rw [HT.sIx_nat, HT.sIx_none, Nat.min_eq_left (by simpa using cl), List.drop_zero, Nat.sub_zero, List.map_take]
  rw [sc1]
  try simp only [W_seq, W_asg, W_set, W_V, WV_some, W_C, W_op, W_cmpT, W_isB, W_un, W_tru, W_andT, W_orT, W_notT, W_andV, W_orV, W_notV, W_ife, W_nil, W_cons, W_tup, W_lst, W_addI, W_subI, W_iaddI, W_negI, W_mulI, W_fdivI, W_modI, W_powI, W_cmpI, W_isB_bl, W_isNB, W_isN, W_isntB, W_isntN, W_eqI, W_neI, W_pass, W_brk, W_cont, W_drop, W_rt, W_rtN, W_ifS, W_gsNil, W_gsCons, W_gTup, W_aug, W_call, W_B, RtN_rt, RtN_nx, W_abs, W_intI, W_intB, W_noPart, W_part, W_sl, W_lm, W_lm0, W_iter, W_range1, W_range2, W_forE, W_revE, W_compE, W_yes, W_lenT, W_truB, W_truI, List.append_nil, List.getElem?_cons_zero, List.getElem?_cons_succ, List.set_cons_zero, List.set_cons_succ, List.getElem?_set_self, List.getElem?_set_ne, List.length_set, ne_eq, Nat.reduceEqDiff, not_false_eq_true, Nat.reduceLT, Nat.zero_ne_one, Nat.one_ne_zero, Nat.lt_add_one, Nat.zero_lt_succ, startD, List.map_cons, List.map_nil, List.length_cons, List.length_nil, List.cons_append, List.nil_append, Nat.reduceAdd, Nat.reduceSub, Nat.zero_add, List.replicate_succ, List.replicate_zero, sl, s1]
  refine legs_law (ts := ts.drop cu) get_push (by have := hd6.lt; omega) (fun t z => okT' t (List.mem_of_mem_drop z)) (by simp <;> omega) (fun k _ => by rw [List.drop_drop]; exact (bnd _).2.2) (by have := hd6.lt; simp; omega) fun h7 s0 F7 s2 es => ?_
  have hd7 := F7.dk (Fr.push (S := []).dk hd6)
  have ex := F7.keep (get_pushL ex) (by simp) ht1
  have ew := F7.keep (get_pushL ew) (by simp) (by omega)
  have zero : ∀ (ys : List Tl), L2.atI ((legsP (1 + am) (5 + dl) ys).map rD) 0 = some (rD (hdP (1 + am) (5 + dl) ys)) := fun ys => L2.atI_nat (j := 0) (by rw [List.getElem?_map, legs_get _ _ _ _ (Nat.zero_le _)]; rfl)
  try simp only [W_seq, W_asg, W_set, W_V, WV_some, W_C, W_op, W_cmpT, W_isB, W_un, W_tru, W_andT, W_orT, W_notT, W_andV, W_orV, W_notV, W_ife, W_nil, W_cons, W_tup, W_lst, W_addI, W_subI, W_iaddI, W_negI, W_mulI, W_fdivI, W_modI, W_powI, W_cmpI, W_isB_bl, W_isNB, W_isN, W_isntB, W_isntN, W_eqI, W_neI, W_pass, W_brk, W_cont, W_drop, W_rt, W_rtN, W_ifS, W_gsNil, W_gsCons, W_gTup, W_aug, W_call, W_B, RtN_rt, RtN_nx, W_abs, W_intI, W_intB, W_noPart, W_part, W_sl, W_lm, W_lm0, W_iter, W_range1, W_range2, W_forE, W_revE, W_compE, W_yes, W_lenT, W_truB, W_truI, List.append_nil, List.getElem?_cons_zero, List.getElem?_cons_succ, List.set_cons_zero, List.set_cons_succ, List.getElem?_set_self, List.getElem?_set_ne, List.length_set, ne_eq, Nat.reduceEqDiff, not_false_eq_true, Nat.reduceLT, Nat.zero_ne_one, Nat.one_ne_zero, Nat.lt_add_one, Nat.zero_lt_succ, startD, List.map_cons, List.map_nil, List.length_cons, List.length_nil, List.cons_append, List.nil_append, Nat.reduceAdd, Nat.reduceSub, Nat.zero_add, List.replicate_succ, List.replicate_zero, sl, s1]
  rw [W_ixL es (zero _)]
  try simp only [W_seq, W_asg, W_set, W_V, WV_some, W_C, W_op, W_cmpT, W_isB, W_un, W_tru, W_andT, W_orT, W_notT, W_andV, W_orV, W_notV, W_ife, W_nil, W_cons, W_tup, W_lst, W_addI, W_subI, W_iaddI, W_negI, W_mulI, W_fdivI, W_modI, W_powI, W_cmpI, W_isB_bl, W_isNB, W_isN, W_isntB, W_isntN, W_eqI, W_neI, W_pass, W_brk, W_cont, W_drop, W_rt, W_rtN, W_ifS, W_gsNil, W_gsCons, W_gTup, W_aug, W_call, W_B, RtN_rt, RtN_nx, W_abs, W_intI, W_intB, W_noPart, W_part, W_sl, W_lm, W_lm0, W_iter, W_range1, W_range2, W_forE, W_revE, W_compE, W_yes, W_lenT, W_truB, W_truI, List.append_nil, List.getElem?_cons_zero, List.getElem?_cons_succ, List.set_cons_zero, List.set_cons_succ, List.getElem?_set_self, List.getElem?_set_ne, List.length_set, ne_eq, Nat.reduceEqDiff, not_false_eq_true, Nat.reduceLT, Nat.zero_ne_one, Nat.one_ne_zero, Nat.lt_add_one, Nat.zero_lt_succ, startD, List.map_cons, List.map_nil, List.length_cons, List.length_nil, List.cons_append, List.nil_append, Nat.reduceAdd, Nat.reduceSub, Nat.zero_add, List.replicate_succ, List.replicate_zero, sl, s1]
  rw [show rD (hdP (1 + am) (5 + dl) (ts.drop cu)) = .tup [.int (hdP (1 + am) (5 + dl) (ts.drop cu)).1, .int (hdP (1 + am) (5 + dl) (ts.drop cu)).2] from rfl]
  rw [W_ixT (d := .int (hdP (1 + am) (5 + dl) (ts.drop cu)).1) rfl]
  try simp only [W_seq, W_asg, W_set, W_V, WV_some, W_C, W_op, W_cmpT, W_isB, W_un, W_tru, W_andT, W_orT, W_notT, W_andV, W_orV, W_notV, W_ife, W_nil, W_cons, W_tup, W_lst, W_addI, W_subI, W_iaddI, W_negI, W_mulI, W_fdivI, W_modI, W_powI, W_cmpI, W_isB_bl, W_isNB, W_isN, W_isntB, W_isntN, W_eqI, W_neI, W_pass, W_brk, W_cont, W_drop, W_rt, W_rtN, W_ifS, W_gsNil, W_gsCons, W_gTup, W_aug, W_call, W_B, RtN_rt, RtN_nx, W_abs, W_intI, W_intB, W_noPart, W_part, W_sl, W_lm, W_lm0, W_iter, W_range1, W_range2, W_forE, W_revE, W_compE, W_yes, W_lenT, W_truB, W_truI, List.append_nil, List.getElem?_cons_zero, List.getElem?_cons_succ, List.set_cons_zero, List.set_cons_succ, List.getElem?_set_self, List.getElem?_set_ne, List.length_set, ne_eq, Nat.reduceEqDiff, not_false_eq_true, Nat.reduceLT, Nat.zero_ne_one, Nat.one_ne_zero, Nat.lt_add_one, Nat.zero_lt_succ, startD, List.map_cons, List.map_nil, List.length_cons, List.length_nil, List.cons_append, List.nil_append, Nat.reduceAdd, Nat.reduceSub, Nat.zero_add, List.replicate_succ, List.replicate_zero, sl, s1]
  rw [W_ixL es (zero _)]
  try simp only [W_seq, W_asg, W_set, W_V, WV_some, W_C, W_op, W_cmpT, W_isB, W_un, W_tru, W_andT, W_orT, W_notT, W_andV, W_orV, W_notV, W_ife, W_nil, W_cons, W_tup, W_lst, W_addI, W_subI, W_iaddI, W_negI, W_mulI, W_fdivI, W_modI, W_powI, W_cmpI, W_isB_bl, W_isNB, W_isN, W_isntB, W_isntN, W_eqI, W_neI, W_pass, W_brk, W_cont, W_drop, W_rt, W_rtN, W_ifS, W_gsNil, W_gsCons, W_gTup, W_aug, W_call, W_B, RtN_rt, RtN_nx, W_abs, W_intI, W_intB, W_noPart, W_part, W_sl, W_lm, W_lm0, W_iter, W_range1, W_range2, W_forE, W_revE, W_compE, W_yes, W_lenT, W_truB, W_truI, List.append_nil, List.getElem?_cons_zero, List.getElem?_cons_succ, List.set_cons_zero, List.set_cons_succ, List.getElem?_set_self, List.getElem?_set_ne, List.length_set, ne_eq, Nat.reduceEqDiff, not_false_eq_true, Nat.reduceLT, Nat.zero_ne_one, Nat.one_ne_zero, Nat.lt_add_one, Nat.zero_lt_succ, startD, List.map_cons, List.map_nil, List.length_cons, List.length_nil, List.cons_append, List.nil_append, Nat.reduceAdd, Nat.reduceSub, Nat.zero_add, List.replicate_succ, List.replicate_zero, sl, s1]
  rw [show rD (hdP (1 + am) (5 + dl) (ts.drop cu)) = .tup [.int (hdP (1 + am) (5 + dl) (ts.drop cu)).1, .int (hdP (1 + am) (5 + dl) (ts.drop cu)).2] from rfl]
  rw [W_ixT (d := .int (hdP (1 + am) (5 + dl) (ts.drop cu)).2) rfl]
  try simp only [W_seq, W_asg, W_set, W_V, WV_some, W_C, W_op, W_cmpT, W_isB, W_un, W_tru, W_andT, W_orT, W_notT, W_andV, W_orV, W_notV, W_ife, W_nil, W_cons, W_tup, W_lst, W_addI, W_subI, W_iaddI, W_negI, W_mulI, W_fdivI, W_modI, W_powI, W_cmpI, W_isB_bl, W_isNB, W_isN, W_isntB, W_isntN, W_eqI, W_neI, W_pass, W_brk, W_cont, W_drop, W_rt, W_rtN, W_ifS, W_gsNil, W_gsCons, W_gTup, W_aug, W_call, W_B, RtN_rt, RtN_nx, W_abs, W_intI, W_intB, W_noPart, W_part, W_sl, W_lm, W_lm0, W_iter, W_range1, W_range2, W_forE, W_revE, W_compE, W_yes, W_lenT, W_truB, W_truI, List.append_nil, List.getElem?_cons_zero, List.getElem?_cons_succ, List.set_cons_zero, List.set_cons_succ, List.getElem?_set_self, List.getElem?_set_ne, List.length_set, ne_eq, Nat.reduceEqDiff, not_false_eq_true, Nat.reduceLT, Nat.zero_ne_one, Nat.one_ne_zero, Nat.lt_add_one, Nat.zero_lt_succ, startD, List.map_cons, List.map_nil, List.length_cons, List.length_nil, List.cons_append, List.nil_append, Nat.reduceAdd, Nat.reduceSub, Nat.zero_add, List.replicate_succ, List.replicate_zero, sl, s1]
  refine ⟨_, rfl, ?_⟩
  try simp only [W_seq, W_asg, W_set, W_V, WV_some, W_C, W_op, W_cmpT, W_isB, W_un, W_tru, W_andT, W_orT, W_notT, W_andV, W_orV, W_notV, W_ife, W_nil, W_cons, W_tup, W_lst, W_addI, W_subI, W_iaddI, W_negI, W_mulI, W_fdivI, W_modI, W_powI, W_cmpI, W_isB_bl, W_isNB, W_isN, W_isntB, W_isntN, W_eqI, W_neI, W_pass, W_brk, W_cont, W_drop, W_rt, W_rtN, W_ifS, W_gsNil, W_gsCons, W_gTup, W_aug, W_call, W_B, RtN_rt, RtN_nx, W_abs, W_intI, W_intB, W_noPart, W_part, W_sl, W_lm, W_lm0, W_iter, W_range1, W_range2, W_forE, W_revE, W_compE, W_yes, W_lenT, W_truB, W_truI, List.append_nil, List.getElem?_cons_zero, List.getElem?_cons_succ, List.set_cons_zero, List.set_cons_succ, List.getElem?_set_self, List.getElem?_set_ne, List.length_set, ne_eq, Nat.reduceEqDiff, not_false_eq_true, Nat.reduceLT, Nat.zero_ne_one, Nat.one_ne_zero, Nat.lt_add_one, Nat.zero_lt_succ, startD, List.map_cons, List.map_nil, List.length_cons, List.length_nil, List.cons_append, List.nil_append, Nat.reduceAdd, Nat.reduceSub, Nat.zero_add, List.replicate_succ, List.replicate_zero, sl, s1]
  rw [W_slL ex, sc2]
  try simp only [W_seq, W_asg, W_set, W_V, WV_some, W_C, W_op, W_cmpT, W_isB, W_un, W_tru, W_andT, W_orT, W_notT, W_andV, W_orV, W_notV, W_ife, W_nil, W_cons, W_tup, W_lst, W_addI, W_subI, W_iaddI, W_negI, W_mulI, W_fdivI, W_modI, W_powI, W_cmpI, W_isB_bl, W_isNB, W_isN, W_isntB, W_isntN, W_eqI, W_neI, W_pass, W_brk, W_cont, W_drop, W_rt, W_rtN, W_ifS, W_gsNil, W_gsCons, W_gTup, W_aug, W_call, W_B, RtN_rt, RtN_nx, W_abs, W_intI, W_intB, W_noPart, W_part, W_sl, W_lm, W_lm0, W_iter, W_range1, W_range2, W_forE, W_revE, W_compE, W_yes, W_lenT, W_truB, W_truI, List.append_nil, List.getElem?_cons_zero, List.getElem?_cons_succ, List.set_cons_zero, List.set_cons_succ, List.getElem?_set_self, List.getElem?_set_ne, List.length_set, ne_eq, Nat.reduceEqDiff, not_false_eq_true, Nat.reduceLT, Nat.zero_ne_one, Nat.one_ne_zero, Nat.lt_add_one, Nat.zero_lt_succ, startD, List.map_cons, List.map_nil, List.length_cons, List.length_nil, List.cons_append, List.nil_append, Nat.reduceAdd, Nat.reduceSub, Nat.zero_add, List.replicate_succ, List.replicate_zero, sl, s1]
  have app := hd_app (1 + am) (5 + dl) (ts.drop cu)
  refine legs_law (ts := ts.take cu) get_push (by have := hd7.lt; omega) (fun t z => okT' t (List.mem_of_mem_take z)) (by simp <;> omega) (fun k hk => by
    rw [← app, show (ts.take cu).drop k ++ ts.drop cu = ts.drop k by
      conv => rhs; rw [← List.take_append_drop cu ts]
      rw [List.drop_append_of_le_length (by simpa using hk)]]
    exact (bnd k).2.2) (by have := hd7.lt; simp; omega) fun h8 f0 F8 f2 ef => ?_
  have hd8 := F8.dk (Fr.push (S := []).dk hd7)
  have ex := F8.keep (get_pushL ex) (by simp) ht1
  have ew := F8.keep (get_pushL ew) (by simp) (by omega)
  have es := F8.keep (get_pushL es) (by simp) (by omega)
  clear F3 F4 F5 F6 F7 F8 hd2 hd3 hd4 hd5 hd6 hd7
  try simp only [W_seq, W_asg, W_set, W_V, WV_some, W_C, W_op, W_cmpT, W_isB, W_un, W_tru, W_andT, W_orT, W_notT, W_andV, W_orV, W_notV, W_ife, W_nil, W_cons, W_tup, W_lst, W_addI, W_subI, W_iaddI, W_negI, W_mulI, W_fdivI, W_modI, W_powI, W_cmpI, W_isB_bl, W_isNB, W_isN, W_isntB, W_isntN, W_eqI, W_neI, W_pass, W_brk, W_cont, W_drop, W_rt, W_rtN, W_ifS, W_gsNil, W_gsCons, W_gTup, W_aug, W_call, W_B, RtN_rt, RtN_nx, W_abs, W_intI, W_intB, W_noPart, W_part, W_sl, W_lm, W_lm0, W_iter, W_range1, W_range2, W_forE, W_revE, W_compE, W_yes, W_lenT, W_truB, W_truI, List.append_nil, List.getElem?_cons_zero, List.getElem?_cons_succ, List.set_cons_zero, List.set_cons_succ, List.getElem?_set_self, List.getElem?_set_ne, List.length_set, ne_eq, Nat.reduceEqDiff, not_false_eq_true, Nat.reduceLT, Nat.zero_ne_one, Nat.one_ne_zero, Nat.lt_add_one, Nat.zero_lt_succ, startD, List.map_cons, List.map_nil, List.length_cons, List.length_nil, List.cons_append, List.nil_append, Nat.reduceAdd, Nat.reduceSub, Nat.zero_add, List.replicate_succ, List.replicate_zero, sl, s1]
  refine ⟨_, rfl, ?_⟩
  try simp only [W_seq, W_asg, W_set, W_V, WV_some, W_C, W_op, W_cmpT, W_isB, W_un, W_tru, W_andT, W_orT, W_notT, W_andV, W_orV, W_notV, W_ife, W_nil, W_cons, W_tup, W_lst, W_addI, W_subI, W_iaddI, W_negI, W_mulI, W_fdivI, W_modI, W_powI, W_cmpI, W_isB_bl, W_isNB, W_isN, W_isntB, W_isntN, W_eqI, W_neI, W_pass, W_brk, W_cont, W_drop, W_rt, W_rtN, W_ifS, W_gsNil, W_gsCons, W_gTup, W_aug, W_call, W_B, RtN_rt, RtN_nx, W_abs, W_intI, W_intB, W_noPart, W_part, W_sl, W_lm, W_lm0, W_iter, W_range1, W_range2, W_forE, W_revE, W_compE, W_yes, W_lenT, W_truB, W_truI, List.append_nil, List.getElem?_cons_zero, List.getElem?_cons_succ, List.set_cons_zero, List.set_cons_succ, List.getElem?_set_self, List.getElem?_set_ne, List.length_set, ne_eq, Nat.reduceEqDiff, not_false_eq_true, Nat.reduceLT, Nat.zero_ne_one, Nat.one_ne_zero, Nat.lt_add_one, Nat.zero_lt_succ, startD, List.map_cons, List.map_nil, List.length_cons, List.length_nil, List.cons_append, List.nil_append, Nat.reduceAdd, Nat.reduceSub, Nat.zero_add, List.replicate_succ, List.replicate_zero, sl, s1]
  rw [W_slL ef]
  try simp only [W_seq, W_asg, W_set, W_V, WV_some, W_C, W_op, W_cmpT, W_isB, W_un, W_tru, W_andT, W_orT, W_notT, W_andV, W_orV, W_notV, W_ife, W_nil, W_cons, W_tup, W_lst, W_addI, W_subI, W_iaddI, W_negI, W_mulI, W_fdivI, W_modI, W_powI, W_cmpI, W_isB_bl, W_isNB, W_isN, W_isntB, W_isntN, W_eqI, W_neI, W_pass, W_brk, W_cont, W_drop, W_rt, W_rtN, W_ifS, W_gsNil, W_gsCons, W_gTup, W_aug, W_call, W_B, RtN_rt, RtN_nx, W_abs, W_intI, W_intB, W_noPart, W_part, W_sl, W_lm, W_lm0, W_iter, W_range1, W_range2, W_forE, W_revE, W_compE, W_yes, W_lenT, W_truB, W_truI, List.append_nil, List.getElem?_cons_zero, List.getElem?_cons_succ, List.set_cons_zero, List.set_cons_succ, List.getElem?_set_self, List.getElem?_set_ne, List.length_set, ne_eq, Nat.reduceEqDiff, not_false_eq_true, Nat.reduceLT, Nat.zero_ne_one, Nat.one_ne_zero, Nat.lt_add_one, Nat.zero_lt_succ, startD, List.map_cons, List.map_nil, List.length_cons, List.length_nil, List.cons_append, List.nil_append, Nat.reduceAdd, Nat.reduceSub, Nat.zero_add, List.replicate_succ, List.replicate_zero, sl, s1]
  have hcut : cutD ((legsP (hdP (1 + am) (5 + dl) (ts.drop cu)).1 (hdP (1 + am) (5 + dl) (ts.drop cu)).2 (ts.take cu)).map rD) none (some (-1)) = ((legsP (hdP (1 + am) (5 + dl) (ts.drop cu)).1 (hdP (1 + am) (5 + dl) (ts.drop cu)).2 (ts.take cu)).dropLast).map rD := by
    unfold cutD
    rw [HT.sIx_none, List.drop_zero, Nat.sub_zero]
    simp only [HT.sIx, List.length_map]
    rw [if_pos (by decide), List.map_dropLast, List.dropLast_eq_take, List.length_map]
    congr 1
    rw [legs_len]
    omega
  rw [hcut]
  try simp only [W_seq, W_asg, W_set, W_V, WV_some, W_C, W_op, W_cmpT, W_isB, W_un, W_tru, W_andT, W_orT, W_notT, W_andV, W_orV, W_notV, W_ife, W_nil, W_cons, W_tup, W_lst, W_addI, W_subI, W_iaddI, W_negI, W_mulI, W_fdivI, W_modI, W_powI, W_cmpI, W_isB_bl, W_isNB, W_isN, W_isntB, W_isntN, W_eqI, W_neI, W_pass, W_brk, W_cont, W_drop, W_rt, W_rtN, W_ifS, W_gsNil, W_gsCons, W_gTup, W_aug, W_call, W_B, RtN_rt, RtN_nx, W_abs, W_intI, W_intB, W_noPart, W_part, W_sl, W_lm, W_lm0, W_iter, W_range1, W_range2, W_forE, W_revE, W_compE, W_yes, W_lenT, W_truB, W_truI, List.append_nil, List.getElem?_cons_zero, List.getElem?_cons_succ, List.set_cons_zero, List.set_cons_succ, List.getElem?_set_self, List.getElem?_set_ne, List.length_set, ne_eq, Nat.reduceEqDiff, not_false_eq_true, Nat.reduceLT, Nat.zero_ne_one, Nat.one_ne_zero, Nat.lt_add_one, Nat.zero_lt_succ, startD, List.map_cons, List.map_nil, List.length_cons, List.length_nil, List.cons_append, List.nil_append, Nat.reduceAdd, Nat.reduceSub, Nat.zero_add, List.replicate_succ, List.replicate_zero, sl, s1]
  rw [W_addL get_push (get_pushL es) (by simp [legs_len]; show _ ≤ 1000000; omega)]
  try simp only [W_seq, W_asg, W_set, W_V, WV_some, W_C, W_op, W_cmpT, W_isB, W_un, W_tru, W_andT, W_orT, W_notT, W_andV, W_orV, W_notV, W_ife, W_nil, W_cons, W_tup, W_lst, W_addI, W_subI, W_iaddI, W_negI, W_mulI, W_fdivI, W_modI, W_powI, W_cmpI, W_isB_bl, W_isNB, W_isN, W_isntB, W_isntN, W_eqI, W_neI, W_pass, W_brk, W_cont, W_drop, W_rt, W_rtN, W_ifS, W_gsNil, W_gsCons, W_gTup, W_aug, W_call, W_B, RtN_rt, RtN_nx, W_abs, W_intI, W_intB, W_noPart, W_part, W_sl, W_lm, W_lm0, W_iter, W_range1, W_range2, W_forE, W_revE, W_compE, W_yes, W_lenT, W_truB, W_truI, List.append_nil, List.getElem?_cons_zero, List.getElem?_cons_succ, List.set_cons_zero, List.set_cons_succ, List.getElem?_set_self, List.getElem?_set_ne, List.length_set, ne_eq, Nat.reduceEqDiff, not_false_eq_true, Nat.reduceLT, Nat.zero_ne_one, Nat.one_ne_zero, Nat.lt_add_one, Nat.zero_lt_succ, startD, List.map_cons, List.map_nil, List.length_cons, List.length_nil, List.cons_append, List.nil_append, Nat.reduceAdd, Nat.reduceSub, Nat.zero_add, List.replicate_succ, List.replicate_zero, sl, s1]
  rw [← List.map_append, ← legs_app, List.take_append_drop]
  have hl8 := hd8.lt
  refine same_law (rp_rows w2 (get_pushL (get_pushL ew)) (by rw [legs_len]; omega)) (rp_rows (by simp <;> omega) get_push (by rw [legs_len]; omega)) (by simp <;> omega) fun h9 F9 => ?_
  have hd9 := F9.dk (Fr.push (S := []).dk (Fr.push (S := []).dk hd8))
  have ex := F9.keep (get_pushL (get_pushL ex)) (by simp) ht1
  have ew := F9.keep (get_pushL (get_pushL ew)) (by simp) (by omega)
  try simp only [W_seq, W_asg, W_set, W_V, WV_some, W_C, W_op, W_cmpT, W_isB, W_un, W_tru, W_andT, W_orT, W_notT, W_andV, W_orV, W_notV, W_ife, W_nil, W_cons, W_tup, W_lst, W_addI, W_subI, W_iaddI, W_negI, W_mulI, W_fdivI, W_modI, W_powI, W_cmpI, W_isB_bl, W_isNB, W_isN, W_isntB, W_isntN, W_eqI, W_neI, W_pass, W_brk, W_cont, W_drop, W_rt, W_rtN, W_ifS, W_gsNil, W_gsCons, W_gTup, W_aug, W_call, W_B, RtN_rt, RtN_nx, W_abs, W_intI, W_intB, W_noPart, W_part, W_sl, W_lm, W_lm0, W_iter, W_range1, W_range2, W_forE, W_revE, W_compE, W_yes, W_lenT, W_truB, W_truI, List.append_nil, List.getElem?_cons_zero, List.getElem?_cons_succ, List.set_cons_zero, List.set_cons_succ, List.getElem?_set_self, List.getElem?_set_ne, List.length_set, ne_eq, Nat.reduceEqDiff, not_false_eq_true, Nat.reduceLT, Nat.zero_ne_one, Nat.one_ne_zero, Nat.lt_add_one, Nat.zero_lt_succ, startD, List.map_cons, List.map_nil, List.length_cons, List.length_nil, List.cons_append, List.nil_append, Nat.reduceAdd, Nat.reduceSub, Nat.zero_add, List.replicate_succ, List.replicate_zero, sl, s1, Bool.not_true, Bool.false_eq_true, if_false]
  rw [W_lenM ew]
  try simp only [W_seq, W_asg, W_set, W_V, WV_some, W_C, W_op, W_cmpT, W_isB, W_un, W_tru, W_andT, W_orT, W_notT, W_andV, W_orV, W_notV, W_ife, W_nil, W_cons, W_tup, W_lst, W_addI, W_subI, W_iaddI, W_negI, W_mulI, W_fdivI, W_modI, W_powI, W_cmpI, W_isB_bl, W_isNB, W_isN, W_isntB, W_isntN, W_eqI, W_neI, W_pass, W_brk, W_cont, W_drop, W_rt, W_rtN, W_ifS, W_gsNil, W_gsCons, W_gTup, W_aug, W_call, W_B, RtN_rt, RtN_nx, W_abs, W_intI, W_intB, W_noPart, W_part, W_sl, W_lm, W_lm0, W_iter, W_range1, W_range2, W_forE, W_revE, W_compE, W_yes, W_lenT, W_truB, W_truI, List.append_nil, List.getElem?_cons_zero, List.getElem?_cons_succ, List.set_cons_zero, List.set_cons_succ, List.getElem?_set_self, List.getElem?_set_ne, List.length_set, ne_eq, Nat.reduceEqDiff, not_false_eq_true, Nat.reduceLT, Nat.zero_ne_one, Nat.one_ne_zero, Nat.lt_add_one, Nat.zero_lt_succ, startD, List.map_cons, List.map_nil, List.length_cons, List.length_nil, List.cons_append, List.nil_append, Nat.reduceAdd, Nat.reduceSub, Nat.zero_add, List.replicate_succ, List.replicate_zero, sl, s1]
  rw [W_lenM ex]
  try simp only [W_seq, W_asg, W_set, W_V, WV_some, W_C, W_op, W_cmpT, W_isB, W_un, W_tru, W_andT, W_orT, W_notT, W_andV, W_orV, W_notV, W_ife, W_nil, W_cons, W_tup, W_lst, W_addI, W_subI, W_iaddI, W_negI, W_mulI, W_fdivI, W_modI, W_powI, W_cmpI, W_isB_bl, W_isNB, W_isN, W_isntB, W_isntN, W_eqI, W_neI, W_pass, W_brk, W_cont, W_drop, W_rt, W_rtN, W_ifS, W_gsNil, W_gsCons, W_gTup, W_aug, W_call, W_B, RtN_rt, RtN_nx, W_abs, W_intI, W_intB, W_noPart, W_part, W_sl, W_lm, W_lm0, W_iter, W_range1, W_range2, W_forE, W_revE, W_compE, W_yes, W_lenT, W_truB, W_truI, List.append_nil, List.getElem?_cons_zero, List.getElem?_cons_succ, List.set_cons_zero, List.set_cons_succ, List.getElem?_set_self, List.getElem?_set_ne, List.length_set, ne_eq, Nat.reduceEqDiff, not_false_eq_true, Nat.reduceLT, Nat.zero_ne_one, Nat.one_ne_zero, Nat.lt_add_one, Nat.zero_lt_succ, startD, List.map_cons, List.map_nil, List.length_cons, List.length_nil, List.cons_append, List.nil_append, Nat.reduceAdd, Nat.reduceSub, Nat.zero_add, List.replicate_succ, List.replicate_zero, sl, s1, List.length_map]
  rw [show (!(((legsP (1 + am) (5 + dl) ts).length : Nat) : Int) == ((ts.length : Nat) : Int) + 1) = false by rw [legs_len]; first | rfl | simp]
  try simp only [W_seq, W_asg, W_set, W_V, WV_some, W_C, W_op, W_cmpT, W_isB, W_un, W_tru, W_andT, W_orT, W_notT, W_andV, W_orV, W_notV, W_ife, W_nil, W_cons, W_tup, W_lst, W_addI, W_subI, W_iaddI, W_negI, W_mulI, W_fdivI, W_modI, W_powI, W_cmpI, W_isB_bl, W_isNB, W_isN, W_isntB, W_isntN, W_eqI, W_neI, W_pass, W_brk, W_cont, W_drop, W_rt, W_rtN, W_ifS, W_gsNil, W_gsCons, W_gTup, W_aug, W_call, W_B, RtN_rt, RtN_nx, W_abs, W_intI, W_intB, W_noPart, W_part, W_sl, W_lm, W_lm0, W_iter, W_range1, W_range2, W_forE, W_revE, W_compE, W_yes, W_lenT, W_truB, W_truI, List.append_nil, List.getElem?_cons_zero, List.getElem?_cons_succ, List.set_cons_zero, List.set_cons_succ, List.getElem?_set_self, List.getElem?_set_ne, List.length_set, ne_eq, Nat.reduceEqDiff, not_false_eq_true, Nat.reduceLT, Nat.zero_ne_one, Nat.one_ne_zero, Nat.lt_add_one, Nat.zero_lt_succ, startD, List.map_cons, List.map_nil, List.length_cons, List.length_nil, List.cons_append, List.nil_append, Nat.reduceAdd, Nat.reduceSub, Nat.zero_add, List.replicate_succ, List.replicate_zero, sl, s1, Bool.false_eq_true, if_false]
  rw [W_lenM ex]
  try simp only [W_seq, W_asg, W_set, W_V, WV_some, W_C, W_op, W_cmpT, W_isB, W_un, W_tru, W_andT, W_orT, W_notT, W_andV, W_orV, W_notV, W_ife, W_nil, W_cons, W_tup, W_lst, W_addI, W_subI, W_iaddI, W_negI, W_mulI, W_fdivI, W_modI, W_powI, W_cmpI, W_isB_bl, W_isNB, W_isN, W_isntB, W_isntN, W_eqI, W_neI, W_pass, W_brk, W_cont, W_drop, W_rt, W_rtN, W_ifS, W_gsNil, W_gsCons, W_gTup, W_aug, W_call, W_B, RtN_rt, RtN_nx, W_abs, W_intI, W_intB, W_noPart, W_part, W_sl, W_lm, W_lm0, W_iter, W_range1, W_range2, W_forE, W_revE, W_compE, W_yes, W_lenT, W_truB, W_truI, List.append_nil, List.getElem?_cons_zero, List.getElem?_cons_succ, List.set_cons_zero, List.set_cons_succ, List.getElem?_set_self, List.getElem?_set_ne, List.length_set, ne_eq, Nat.reduceEqDiff, not_false_eq_true, Nat.reduceLT, Nat.zero_ne_one, Nat.one_ne_zero, Nat.lt_add_one, Nat.zero_lt_succ, startD, List.map_cons, List.map_nil, List.length_cons, List.length_nil, List.cons_append, List.nil_append, Nat.reduceAdd, Nat.reduceSub, Nat.zero_add, List.replicate_succ, List.replicate_zero, sl, s1, List.length_map]
  have getw : ∀ k : Nat, k ≤ ts.length → L2.atI ((legsP (1 + am) (5 + dl) ts).map rD) (k : Int) = some (rD (hdP (1 + am) (5 + dl) (ts.drop k))) := fun k hk => L2.atI_nat (by rw [List.getElem?_map, legs_get _ _ _ _ hk]; rfl)
  rw [W_ixL ew (getw _ (Nat.le_refl _))]
  try simp only [W_seq, W_asg, W_set, W_V, WV_some, W_C, W_op, W_cmpT, W_isB, W_un, W_tru, W_andT, W_orT, W_notT, W_andV, W_orV, W_notV, W_ife, W_nil, W_cons, W_tup, W_lst, W_addI, W_subI, W_iaddI, W_negI, W_mulI, W_fdivI, W_modI, W_powI, W_cmpI, W_isB_bl, W_isNB, W_isN, W_isntB, W_isntN, W_eqI, W_neI, W_pass, W_brk, W_cont, W_drop, W_rt, W_rtN, W_ifS, W_gsNil, W_gsCons, W_gTup, W_aug, W_call, W_B, RtN_rt, RtN_nx, W_abs, W_intI, W_intB, W_noPart, W_part, W_sl, W_lm, W_lm0, W_iter, W_range1, W_range2, W_forE, W_revE, W_compE, W_yes, W_lenT, W_truB, W_truI, List.append_nil, List.getElem?_cons_zero, List.getElem?_cons_succ, List.set_cons_zero, List.set_cons_succ, List.getElem?_set_self, List.getElem?_set_ne, List.length_set, ne_eq, Nat.reduceEqDiff, not_false_eq_true, Nat.reduceLT, Nat.zero_ne_one, Nat.one_ne_zero, Nat.lt_add_one, Nat.zero_lt_succ, startD, List.map_cons, List.map_nil, List.length_cons, List.length_nil, List.cons_append, List.nil_append, Nat.reduceAdd, Nat.reduceSub, Nat.zero_add, List.replicate_succ, List.replicate_zero, sl, s1]
  refine ⟨by decide, ?_⟩
  rw [List.drop_length]
  rw [W_ne (p := rP (1 + am, 5 + dl)) (q := rP (1 + am, 5 + dl)) rfl rfl rfl rfl, SeqAt.eqv_refl _ rfl]
  try simp only [W_seq, W_asg, W_set, W_V, WV_some, W_C, W_op, W_cmpT, W_isB, W_un, W_tru, W_andT, W_orT, W_notT, W_andV, W_orV, W_notV, W_ife, W_nil, W_cons, W_tup, W_lst, W_addI, W_subI, W_iaddI, W_negI, W_mulI, W_fdivI, W_modI, W_powI, W_cmpI, W_isB_bl, W_isNB, W_isN, W_isntB, W_isntN, W_eqI, W_neI, W_pass, W_brk, W_cont, W_drop, W_rt, W_rtN, W_ifS, W_gsNil, W_gsCons, W_gTup, W_aug, W_call, W_B, RtN_rt, RtN_nx, W_abs, W_intI, W_intB, W_noPart, W_part, W_sl, W_lm, W_lm0, W_iter, W_range1, W_range2, W_forE, W_revE, W_compE, W_yes, W_lenT, W_truB, W_truI, List.append_nil, List.getElem?_cons_zero, List.getElem?_cons_succ, List.set_cons_zero, List.set_cons_succ, List.getElem?_set_self, List.getElem?_set_ne, List.length_set, ne_eq, Nat.reduceEqDiff, not_false_eq_true, Nat.reduceLT, Nat.zero_ne_one, Nat.one_ne_zero, Nat.lt_add_one, Nat.zero_lt_succ, startD, List.map_cons, List.map_nil, List.length_cons, List.length_nil, List.cons_append, List.nil_append, Nat.reduceAdd, Nat.reduceSub, Nat.zero_add, List.replicate_succ, List.replicate_zero, sl, s1, Bool.not_true, Bool.false_eq_true, if_false]
  rw [W_lenM ex]
  try simp only [W_seq, W_asg, W_set, W_V, WV_some, W_C, W_op, W_cmpT, W_isB, W_un, W_tru, W_andT, W_orT, W_notT, W_andV, W_orV, W_notV, W_ife, W_nil, W_cons, W_tup, W_lst, W_addI, W_subI, W_iaddI, W_negI, W_mulI, W_fdivI, W_modI, W_powI, W_cmpI, W_isB_bl, W_isNB, W_isN, W_isntB, W_isntN, W_eqI, W_neI, W_pass, W_brk, W_cont, W_drop, W_rt, W_rtN, W_ifS, W_gsNil, W_gsCons, W_gTup, W_aug, W_call, W_B, RtN_rt, RtN_nx, W_abs, W_intI, W_intB, W_noPart, W_part, W_sl, W_lm, W_lm0, W_iter, W_range1, W_range2, W_forE, W_revE, W_compE, W_yes, W_lenT, W_truB, W_truI, List.append_nil, List.getElem?_cons_zero, List.getElem?_cons_succ, List.set_cons_zero, List.set_cons_succ, List.getElem?_set_self, List.getElem?_set_ne, List.length_set, ne_eq, Nat.reduceEqDiff, not_false_eq_true, Nat.reduceLT, Nat.zero_ne_one, Nat.one_ne_zero, Nat.lt_add_one, Nat.zero_lt_succ, startD, List.map_cons, List.map_nil, List.length_cons, List.length_nil, List.cons_append, List.nil_append, Nat.reduceAdd, Nat.reduceSub, Nat.zero_add, List.replicate_succ, List.replicate_zero, sl, s1, List.length_map]
  refine ⟨_, rfl, by omega, ?_⟩
  refine w_forR (fun i σ h => σ.length = 18 ∧ σ[1]? = some (some (.ref 1)) ∧ σ[3]? = some (some (.ref t0)) ∧ σ[6]? = some (some (.ref w0)) ∧ Dk h ∧ h[t0]? = some (.lst (ts.map tD)) ∧ h[w0]? = some (.lst ((legsP (1 + am) (5 + dl) ts).map rD))) ⟨by simp [sl], by simp [s1], by simp [sl], by simp [sl], hd9, ex, ew⟩ ?_ ?_
  · clear ex ew es ef hd9 hd8 F9 hl8 s1 sl
    rintro i σ h hi ⟨sl, s1, s3, s6, hd, ex, ew⟩
    have hi' : i < ts.length := by simpa using hi
    have gi := getw i (by omega)
    have gi2 := getw (i + 1) (by omega)
    have dc : ts.drop i = ts[i] :: ts.drop (i + 1) := List.drop_eq_getElem_cons hi'
    have b1 := bnd i
    have b2 := bnd (i + 1)
    have hti : okT ts[i] := okT' _ (List.getElem_mem _)
    have gt : L2.atI (ts.map tD) (i : Int) = some (tD ts[i]) := L2.atI_nat (by rw [List.getElem?_map, List.getElem?_eq_getElem hi']; rfl)
    rw [dc, hdP] at gi
    generalize hm : (hdP (1 + am) (5 + dl) (ts.drop (i + 1))).1 = m at *
    generalize hdd : (hdP (1 + am) (5 + dl) (ts.drop (i + 1))).2 = dd at *
    have gi2 : L2.atI ((legsP (1 + am) (5 + dl) ts).map rD) ((i : Int) + 1) = some (.tup [.int m, .int dd]) := by rw [← hm, ← hdd]; exact gi2
    have gi : L2.atI ((legsP (1 + am) (5 + dl) ts).map rD) (i : Int) = some (.tup [.int (mci ts[i] m), .int (dd + ts[i].2.2)]) := gi
    rw [Int.zero_add]
    unfold Turn L_law_0
    try simp only [W_seq, W_asg, W_set, W_V, WV_some, W_C, W_op, W_cmpT, W_isB, W_un, W_tru, W_andT, W_orT, W_notT, W_andV, W_orV, W_notV, W_ife, W_nil, W_cons, W_tup, W_lst, W_addI, W_subI, W_iaddI, W_negI, W_mulI, W_fdivI, W_modI, W_powI, W_cmpI, W_isB_bl, W_isNB, W_isN, W_isntB, W_isntN, W_eqI, W_neI, W_pass, W_brk, W_cont, W_drop, W_rt, W_rtN, W_ifS, W_gsNil, W_gsCons, W_gTup, W_aug, W_call, W_B, RtN_rt, RtN_nx, W_abs, W_intI, W_intB, W_noPart, W_part, W_sl, W_lm, W_lm0, W_iter, W_range1, W_range2, W_forE, W_revE, W_compE, W_yes, W_lenT, W_truB, W_truI, List.append_nil, List.getElem?_cons_zero, List.getElem?_cons_succ, List.set_cons_zero, List.set_cons_succ, List.getElem?_set_self, List.getElem?_set_ne, List.length_set, ne_eq, Nat.reduceEqDiff, not_false_eq_true, Nat.reduceLT, Nat.zero_ne_one, Nat.one_ne_zero, Nat.lt_add_one, Nat.zero_lt_succ, startD, List.map_cons, List.map_nil, List.length_cons, List.length_nil, List.cons_append, List.nil_append, Nat.reduceAdd, Nat.reduceSub, Nat.zero_add, List.replicate_succ, List.replicate_zero, sl, s1, s3, s6, Int.zero_add]
    rw [W_ixL ew gi]
    try simp only [W_seq, W_asg, W_set, W_V, WV_some, W_C, W_op, W_cmpT, W_isB, W_un, W_tru, W_andT, W_orT, W_notT, W_andV, W_orV, W_notV, W_ife, W_nil, W_cons, W_tup, W_lst, W_addI, W_subI, W_iaddI, W_negI, W_mulI, W_fdivI, W_modI, W_powI, W_cmpI, W_isB_bl, W_isNB, W_isN, W_isntB, W_isntN, W_eqI, W_neI, W_pass, W_brk, W_cont, W_drop, W_rt, W_rtN, W_ifS, W_gsNil, W_gsCons, W_gTup, W_aug, W_call, W_B, RtN_rt, RtN_nx, W_abs, W_intI, W_intB, W_noPart, W_part, W_sl, W_lm, W_lm0, W_iter, W_range1, W_range2, W_forE, W_revE, W_compE, W_yes, W_lenT, W_truB, W_truI, List.append_nil, List.getElem?_cons_zero, List.getElem?_cons_succ, List.set_cons_zero, List.set_cons_succ, List.getElem?_set_self, List.getElem?_set_ne, List.length_set, ne_eq, Nat.reduceEqDiff, not_false_eq_true, Nat.reduceLT, Nat.zero_ne_one, Nat.one_ne_zero, Nat.lt_add_one, Nat.zero_lt_succ, startD, List.map_cons, List.map_nil, List.length_cons, List.length_nil, List.cons_append, List.nil_append, Nat.reduceAdd, Nat.reduceSub, Nat.zero_add, List.replicate_succ, List.replicate_zero, sl, s1, s3, s6]
    rw [W_ixT (d := .int (mci ts[i] m)) rfl]
    try simp only [W_seq, W_asg, W_set, W_V, WV_some, W_C, W_op, W_cmpT, W_isB, W_un, W_tru, W_andT, W_orT, W_notT, W_andV, W_orV, W_notV, W_ife, W_nil, W_cons, W_tup, W_lst, W_addI, W_subI, W_iaddI, W_negI, W_mulI, W_fdivI, W_modI, W_powI, W_cmpI, W_isB_bl, W_isNB, W_isN, W_isntB, W_isntN, W_eqI, W_neI, W_pass, W_brk, W_cont, W_drop, W_rt, W_rtN, W_ifS, W_gsNil, W_gsCons, W_gTup, W_aug, W_call, W_B, RtN_rt, RtN_nx, W_abs, W_intI, W_intB, W_noPart, W_part, W_sl, W_lm, W_lm0, W_iter, W_range1, W_range2, W_forE, W_revE, W_compE, W_yes, W_lenT, W_truB, W_truI, List.append_nil, List.getElem?_cons_zero, List.getElem?_cons_succ, List.set_cons_zero, List.set_cons_succ, List.getElem?_set_self, List.getElem?_set_ne, List.length_set, ne_eq, Nat.reduceEqDiff, not_false_eq_true, Nat.reduceLT, Nat.zero_ne_one, Nat.one_ne_zero, Nat.lt_add_one, Nat.zero_lt_succ, startD, List.map_cons, List.map_nil, List.length_cons, List.length_nil, List.cons_append, List.nil_append, Nat.reduceAdd, Nat.reduceSub, Nat.zero_add, List.replicate_succ, List.replicate_zero, sl, s1, s3, s6]
    rw [W_ixL ew gi]
    try simp only [W_seq, W_asg, W_set, W_V, WV_some, W_C, W_op, W_cmpT, W_isB, W_un, W_tru, W_andT, W_orT, W_notT, W_andV, W_orV, W_notV, W_ife, W_nil, W_cons, W_tup, W_lst, W_addI, W_subI, W_iaddI, W_negI, W_mulI, W_fdivI, W_modI, W_powI, W_cmpI, W_isB_bl, W_isNB, W_isN, W_isntB, W_isntN, W_eqI, W_neI, W_pass, W_brk, W_cont, W_drop, W_rt, W_rtN, W_ifS, W_gsNil, W_gsCons, W_gTup, W_aug, W_call, W_B, RtN_rt, RtN_nx, W_abs, W_intI, W_intB, W_noPart, W_part, W_sl, W_lm, W_lm0, W_iter, W_range1, W_range2, W_forE, W_revE, W_compE, W_yes, W_lenT, W_truB, W_truI, List.append_nil, List.getElem?_cons_zero, List.getElem?_cons_succ, List.set_cons_zero, List.set_cons_succ, List.getElem?_set_self, List.getElem?_set_ne, List.length_set, ne_eq, Nat.reduceEqDiff, not_false_eq_true, Nat.reduceLT, Nat.zero_ne_one, Nat.one_ne_zero, Nat.lt_add_one, Nat.zero_lt_succ, startD, List.map_cons, List.map_nil, List.length_cons, List.length_nil, List.cons_append, List.nil_append, Nat.reduceAdd, Nat.reduceSub, Nat.zero_add, List.replicate_succ, List.replicate_zero, sl, s1, s3, s6]
    rw [W_ixT (d := .int (dd + ts[i].2.2)) rfl]
    try simp only [W_seq, W_asg, W_set, W_V, WV_some, W_C, W_op, W_cmpT, W_isB, W_un, W_tru, W_andT, W_orT, W_notT, W_andV, W_orV, W_notV, W_ife, W_nil, W_cons, W_tup, W_lst, W_addI, W_subI, W_iaddI, W_negI, W_mulI, W_fdivI, W_modI, W_powI, W_cmpI, W_isB_bl, W_isNB, W_isN, W_isntB, W_isntN, W_eqI, W_neI, W_pass, W_brk, W_cont, W_drop, W_rt, W_rtN, W_ifS, W_gsNil, W_gsCons, W_gTup, W_aug, W_call, W_B, RtN_rt, RtN_nx, W_abs, W_intI, W_intB, W_noPart, W_part, W_sl, W_lm, W_lm0, W_iter, W_range1, W_range2, W_forE, W_revE, W_compE, W_yes, W_lenT, W_truB, W_truI, List.append_nil, List.getElem?_cons_zero, List.getElem?_cons_succ, List.set_cons_zero, List.set_cons_succ, List.getElem?_set_self, List.getElem?_set_ne, List.length_set, ne_eq, Nat.reduceEqDiff, not_false_eq_true, Nat.reduceLT, Nat.zero_ne_one, Nat.one_ne_zero, Nat.lt_add_one, Nat.zero_lt_succ, startD, List.map_cons, List.map_nil, List.length_cons, List.length_nil, List.cons_append, List.nil_append, Nat.reduceAdd, Nat.reduceSub, Nat.zero_add, List.replicate_succ, List.replicate_zero, sl, s1, s3, s6]
    refine ⟨by decide, ?_⟩
    try simp only [W_seq, W_asg, W_set, W_V, WV_some, W_C, W_op, W_cmpT, W_isB, W_un, W_tru, W_andT, W_orT, W_notT, W_andV, W_orV, W_notV, W_ife, W_nil, W_cons, W_tup, W_lst, W_addI, W_subI, W_iaddI, W_negI, W_mulI, W_fdivI, W_modI, W_powI, W_cmpI, W_isB_bl, W_isNB, W_isN, W_isntB, W_isntN, W_eqI, W_neI, W_pass, W_brk, W_cont, W_drop, W_rt, W_rtN, W_ifS, W_gsNil, W_gsCons, W_gTup, W_aug, W_call, W_B, RtN_rt, RtN_nx, W_abs, W_intI, W_intB, W_noPart, W_part, W_sl, W_lm, W_lm0, W_iter, W_range1, W_range2, W_forE, W_revE, W_compE, W_yes, W_lenT, W_truB, W_truI, List.append_nil, List.getElem?_cons_zero, List.getElem?_cons_succ, List.set_cons_zero, List.set_cons_succ, List.getElem?_set_self, List.getElem?_set_ne, List.length_set, ne_eq, Nat.reduceEqDiff, not_false_eq_true, Nat.reduceLT, Nat.zero_ne_one, Nat.one_ne_zero, Nat.lt_add_one, Nat.zero_lt_succ, startD, List.map_cons, List.map_nil, List.length_cons, List.length_nil, List.cons_append, List.nil_append, Nat.reduceAdd, Nat.reduceSub, Nat.zero_add, List.replicate_succ, List.replicate_zero, sl, s1, s3, s6]
    rw [W_ixL ew gi2]
    try simp only [W_seq, W_asg, W_set, W_V, WV_some, W_C, W_op, W_cmpT, W_isB, W_un, W_tru, W_andT, W_orT, W_notT, W_andV, W_orV, W_notV, W_ife, W_nil, W_cons, W_tup, W_lst, W_addI, W_subI, W_iaddI, W_negI, W_mulI, W_fdivI, W_modI, W_powI, W_cmpI, W_isB_bl, W_isNB, W_isN, W_isntB, W_isntN, W_eqI, W_neI, W_pass, W_brk, W_cont, W_drop, W_rt, W_rtN, W_ifS, W_gsNil, W_gsCons, W_gTup, W_aug, W_call, W_B, RtN_rt, RtN_nx, W_abs, W_intI, W_intB, W_noPart, W_part, W_sl, W_lm, W_lm0, W_iter, W_range1, W_range2, W_forE, W_revE, W_compE, W_yes, W_lenT, W_truB, W_truI, List.append_nil, List.getElem?_cons_zero, List.getElem?_cons_succ, List.set_cons_zero, List.set_cons_succ, List.getElem?_set_self, List.getElem?_set_ne, List.length_set, ne_eq, Nat.reduceEqDiff, not_false_eq_true, Nat.reduceLT, Nat.zero_ne_one, Nat.one_ne_zero, Nat.lt_add_one, Nat.zero_lt_succ, startD, List.map_cons, List.map_nil, List.length_cons, List.length_nil, List.cons_append, List.nil_append, Nat.reduceAdd, Nat.reduceSub, Nat.zero_add, List.replicate_succ, List.replicate_zero, sl, s1, s3, s6]
    rw [W_ixT (d := .int m) rfl]
    try simp only [W_seq, W_asg, W_set, W_V, WV_some, W_C, W_op, W_cmpT, W_isB, W_un, W_tru, W_andT, W_orT, W_notT, W_andV, W_orV, W_notV, W_ife, W_nil, W_cons, W_tup, W_lst, W_addI, W_subI, W_iaddI, W_negI, W_mulI, W_fdivI, W_modI, W_powI, W_cmpI, W_isB_bl, W_isNB, W_isN, W_isntB, W_isntN, W_eqI, W_neI, W_pass, W_brk, W_cont, W_drop, W_rt, W_rtN, W_ifS, W_gsNil, W_gsCons, W_gTup, W_aug, W_call, W_B, RtN_rt, RtN_nx, W_abs, W_intI, W_intB, W_noPart, W_part, W_sl, W_lm, W_lm0, W_iter, W_range1, W_range2, W_forE, W_revE, W_compE, W_yes, W_lenT, W_truB, W_truI, List.append_nil, List.getElem?_cons_zero, List.getElem?_cons_succ, List.set_cons_zero, List.set_cons_succ, List.getElem?_set_self, List.getElem?_set_ne, List.length_set, ne_eq, Nat.reduceEqDiff, not_false_eq_true, Nat.reduceLT, Nat.zero_ne_one, Nat.one_ne_zero, Nat.lt_add_one, Nat.zero_lt_succ, startD, List.map_cons, List.map_nil, List.length_cons, List.length_nil, List.cons_append, List.nil_append, Nat.reduceAdd, Nat.reduceSub, Nat.zero_add, List.replicate_succ, List.replicate_zero, sl, s1, s3, s6]
    rw [W_ixL ew gi2]
    try simp only [W_seq, W_asg, W_set, W_V, WV_some, W_C, W_op, W_cmpT, W_isB, W_un, W_tru, W_andT, W_orT, W_notT, W_andV, W_orV, W_notV, W_ife, W_nil, W_cons, W_tup, W_lst, W_addI, W_subI, W_iaddI, W_negI, W_mulI, W_fdivI, W_modI, W_powI, W_cmpI, W_isB_bl, W_isNB, W_isN, W_isntB, W_isntN, W_eqI, W_neI, W_pass, W_brk, W_cont, W_drop, W_rt, W_rtN, W_ifS, W_gsNil, W_gsCons, W_gTup, W_aug, W_call, W_B, RtN_rt, RtN_nx, W_abs, W_intI, W_intB, W_noPart, W_part, W_sl, W_lm, W_lm0, W_iter, W_range1, W_range2, W_forE, W_revE, W_compE, W_yes, W_lenT, W_truB, W_truI, List.append_nil, List.getElem?_cons_zero, List.getElem?_cons_succ, List.set_cons_zero, List.set_cons_succ, List.getElem?_set_self, List.getElem?_set_ne, List.length_set, ne_eq, Nat.reduceEqDiff, not_false_eq_true, Nat.reduceLT, Nat.zero_ne_one, Nat.one_ne_zero, Nat.lt_add_one, Nat.zero_lt_succ, startD, List.map_cons, List.map_nil, List.length_cons, List.length_nil, List.cons_append, List.nil_append, Nat.reduceAdd, Nat.reduceSub, Nat.zero_add, List.replicate_succ, List.replicate_zero, sl, s1, s3, s6]
    rw [W_ixT (d := .int dd) rfl]
    try simp only [W_seq, W_asg, W_set, W_V, WV_some, W_C, W_op, W_cmpT, W_isB, W_un, W_tru, W_andT, W_orT, W_notT, W_andV, W_orV, W_notV, W_ife, W_nil, W_cons, W_tup, W_lst, W_addI, W_subI, W_iaddI, W_negI, W_mulI, W_fdivI, W_modI, W_powI, W_cmpI, W_isB_bl, W_isNB, W_isN, W_isntB, W_isntN, W_eqI, W_neI, W_pass, W_brk, W_cont, W_drop, W_rt, W_rtN, W_ifS, W_gsNil, W_gsCons, W_gTup, W_aug, W_call, W_B, RtN_rt, RtN_nx, W_abs, W_intI, W_intB, W_noPart, W_part, W_sl, W_lm, W_lm0, W_iter, W_range1, W_range2, W_forE, W_revE, W_compE, W_yes, W_lenT, W_truB, W_truI, List.append_nil, List.getElem?_cons_zero, List.getElem?_cons_succ, List.set_cons_zero, List.set_cons_succ, List.getElem?_set_self, List.getElem?_set_ne, List.length_set, ne_eq, Nat.reduceEqDiff, not_false_eq_true, Nat.reduceLT, Nat.zero_ne_one, Nat.one_ne_zero, Nat.lt_add_one, Nat.zero_lt_succ, startD, List.map_cons, List.map_nil, List.length_cons, List.length_nil, List.cons_append, List.nil_append, Nat.reduceAdd, Nat.reduceSub, Nat.zero_add, List.replicate_succ, List.replicate_zero, sl, s1, s3, s6]
    refine ⟨by decide, ?_⟩
    try simp only [W_seq, W_asg, W_set, W_V, WV_some, W_C, W_op, W_cmpT, W_isB, W_un, W_tru, W_andT, W_orT, W_notT, W_andV, W_orV, W_notV, W_ife, W_nil, W_cons, W_tup, W_lst, W_addI, W_subI, W_iaddI, W_negI, W_mulI, W_fdivI, W_modI, W_powI, W_cmpI, W_isB_bl, W_isNB, W_isN, W_isntB, W_isntN, W_eqI, W_neI, W_pass, W_brk, W_cont, W_drop, W_rt, W_rtN, W_ifS, W_gsNil, W_gsCons, W_gTup, W_aug, W_call, W_B, RtN_rt, RtN_nx, W_abs, W_intI, W_intB, W_noPart, W_part, W_sl, W_lm, W_lm0, W_iter, W_range1, W_range2, W_forE, W_revE, W_compE, W_yes, W_lenT, W_truB, W_truI, List.append_nil, List.getElem?_cons_zero, List.getElem?_cons_succ, List.set_cons_zero, List.set_cons_succ, List.getElem?_set_self, List.getElem?_set_ne, List.length_set, ne_eq, Nat.reduceEqDiff, not_false_eq_true, Nat.reduceLT, Nat.zero_ne_one, Nat.one_ne_zero, Nat.lt_add_one, Nat.zero_lt_succ, startD, List.map_cons, List.map_nil, List.length_cons, List.length_nil, List.cons_append, List.nil_append, Nat.reduceAdd, Nat.reduceSub, Nat.zero_add, List.replicate_succ, List.replicate_zero, sl, s1, s3, s6]
    rw [W_ixT (d := .int dd) rfl]
    try simp only [W_seq, W_asg, W_set, W_V, WV_some, W_C, W_op, W_cmpT, W_isB, W_un, W_tru, W_andT, W_orT, W_notT, W_andV, W_orV, W_notV, W_ife, W_nil, W_cons, W_tup, W_lst, W_addI, W_subI, W_iaddI, W_negI, W_mulI, W_fdivI, W_modI, W_powI, W_cmpI, W_isB_bl, W_isNB, W_isN, W_isntB, W_isntN, W_eqI, W_neI, W_pass, W_brk, W_cont, W_drop, W_rt, W_rtN, W_ifS, W_gsNil, W_gsCons, W_gTup, W_aug, W_call, W_B, RtN_rt, RtN_nx, W_abs, W_intI, W_intB, W_noPart, W_part, W_sl, W_lm, W_lm0, W_iter, W_range1, W_range2, W_forE, W_revE, W_compE, W_yes, W_lenT, W_truB, W_truI, List.append_nil, List.getElem?_cons_zero, List.getElem?_cons_succ, List.set_cons_zero, List.set_cons_succ, List.getElem?_set_self, List.getElem?_set_ne, List.length_set, ne_eq, Nat.reduceEqDiff, not_false_eq_true, Nat.reduceLT, Nat.zero_ne_one, Nat.one_ne_zero, Nat.lt_add_one, Nat.zero_lt_succ, startD, List.map_cons, List.map_nil, List.length_cons, List.length_nil, List.cons_append, List.nil_append, Nat.reduceAdd, Nat.reduceSub, Nat.zero_add, List.replicate_succ, List.replicate_zero, sl, s1, s3, s6]
    refine take_law hd (by omega) fun hh h1 hh0 hh1 F1 hd1 => ?_
    have ex := F1.keep ex (by simp) ht1
    have ew := F1.keep ew (by simp) (by omega)
    try simp only [W_seq, W_asg, W_set, W_V, WV_some, W_C, W_op, W_cmpT, W_isB, W_un, W_tru, W_andT, W_orT, W_notT, W_andV, W_orV, W_notV, W_ife, W_nil, W_cons, W_tup, W_lst, W_addI, W_subI, W_iaddI, W_negI, W_mulI, W_fdivI, W_modI, W_powI, W_cmpI, W_isB_bl, W_isNB, W_isN, W_isntB, W_isntN, W_eqI, W_neI, W_pass, W_brk, W_cont, W_drop, W_rt, W_rtN, W_ifS, W_gsNil, W_gsCons, W_gTup, W_aug, W_call, W_B, RtN_rt, RtN_nx, W_abs, W_intI, W_intB, W_noPart, W_part, W_sl, W_lm, W_lm0, W_iter, W_range1, W_range2, W_forE, W_revE, W_compE, W_yes, W_lenT, W_truB, W_truI, List.append_nil, List.getElem?_cons_zero, List.getElem?_cons_succ, List.set_cons_zero, List.set_cons_succ, List.getElem?_set_self, List.getElem?_set_ne, List.length_set, ne_eq, Nat.reduceEqDiff, not_false_eq_true, Nat.reduceLT, Nat.zero_ne_one, Nat.one_ne_zero, Nat.lt_add_one, Nat.zero_lt_succ, startD, List.map_cons, List.map_nil, List.length_cons, List.length_nil, List.cons_append, List.nil_append, Nat.reduceAdd, Nat.reduceSub, Nat.zero_add, List.replicate_succ, List.replicate_zero, sl, s1, s3, s6]
    rw [W_ixL ex gt]
    try simp only [W_seq, W_asg, W_set, W_V, WV_some, W_C, W_op, W_cmpT, W_isB, W_un, W_tru, W_andT, W_orT, W_notT, W_andV, W_orV, W_notV, W_ife, W_nil, W_cons, W_tup, W_lst, W_addI, W_subI, W_iaddI, W_negI, W_mulI, W_fdivI, W_modI, W_powI, W_cmpI, W_isB_bl, W_isNB, W_isN, W_isntB, W_isntN, W_eqI, W_neI, W_pass, W_brk, W_cont, W_drop, W_rt, W_rtN, W_ifS, W_gsNil, W_gsCons, W_gTup, W_aug, W_call, W_B, RtN_rt, RtN_nx, W_abs, W_intI, W_intB, W_noPart, W_part, W_sl, W_lm, W_lm0, W_iter, W_range1, W_range2, W_forE, W_revE, W_compE, W_yes, W_lenT, W_truB, W_truI, List.append_nil, List.getElem?_cons_zero, List.getElem?_cons_succ, List.set_cons_zero, List.set_cons_succ, List.getElem?_set_self, List.getElem?_set_ne, List.length_set, ne_eq, Nat.reduceEqDiff, not_false_eq_true, Nat.reduceLT, Nat.zero_ne_one, Nat.one_ne_zero, Nat.lt_add_one, Nat.zero_lt_succ, startD, List.map_cons, List.map_nil, List.length_cons, List.length_nil, List.cons_append, List.nil_append, Nat.reduceAdd, Nat.reduceSub, Nat.zero_add, List.replicate_succ, List.replicate_zero, sl, s1, s3, s6]
    refine give_law (m := m) (d := dd) (ia := mci ts[i] m) (id' := dd + ts[i].2.2) hti (by omega) ?_
    rw [show (decide (mci ts[i] m ≤ mci ts[i] m) && (decide (dd + ts[i].2.2 ≤ dd + ts[i].2.2) && decide (hh < dd))) = true by simp <;> omega]
    try simp only [W_seq, W_asg, W_set, W_V, WV_some, W_C, W_op, W_cmpT, W_isB, W_un, W_tru, W_andT, W_orT, W_notT, W_andV, W_orV, W_notV, W_ife, W_nil, W_cons, W_tup, W_lst, W_addI, W_subI, W_iaddI, W_negI, W_mulI, W_fdivI, W_modI, W_powI, W_cmpI, W_isB_bl, W_isNB, W_isN, W_isntB, W_isntN, W_eqI, W_neI, W_pass, W_brk, W_cont, W_drop, W_rt, W_rtN, W_ifS, W_gsNil, W_gsCons, W_gTup, W_aug, W_call, W_B, RtN_rt, RtN_nx, W_abs, W_intI, W_intB, W_noPart, W_part, W_sl, W_lm, W_lm0, W_iter, W_range1, W_range2, W_forE, W_revE, W_compE, W_yes, W_lenT, W_truB, W_truI, List.append_nil, List.getElem?_cons_zero, List.getElem?_cons_succ, List.set_cons_zero, List.set_cons_succ, List.getElem?_set_self, List.getElem?_set_ne, List.length_set, ne_eq, Nat.reduceEqDiff, not_false_eq_true, Nat.reduceLT, Nat.zero_ne_one, Nat.one_ne_zero, Nat.lt_add_one, Nat.zero_lt_succ, startD, List.map_cons, List.map_nil, List.length_cons, List.length_nil, List.cons_append, List.nil_append, Nat.reduceAdd, Nat.reduceSub, Nat.zero_add, List.replicate_succ, List.replicate_zero, sl, s1, s3, s6]
    rw [show (!(true == true)) = false from rfl]
    try simp only [W_seq, W_asg, W_set, W_V, WV_some, W_C, W_op, W_cmpT, W_isB, W_un, W_tru, W_andT, W_orT, W_notT, W_andV, W_orV, W_notV, W_ife, W_nil, W_cons, W_tup, W_lst, W_addI, W_subI, W_iaddI, W_negI, W_mulI, W_fdivI, W_modI, W_powI, W_cmpI, W_isB_bl, W_isNB, W_isN, W_isntB, W_isntN, W_eqI, W_neI, W_pass, W_brk, W_cont, W_drop, W_rt, W_rtN, W_ifS, W_gsNil, W_gsCons, W_gTup, W_aug, W_call, W_B, RtN_rt, RtN_nx, W_abs, W_intI, W_intB, W_noPart, W_part, W_sl, W_lm, W_lm0, W_iter, W_range1, W_range2, W_forE, W_revE, W_compE, W_yes, W_lenT, W_truB, W_truI, List.append_nil, List.getElem?_cons_zero, List.getElem?_cons_succ, List.set_cons_zero, List.set_cons_succ, List.getElem?_set_self, List.getElem?_set_ne, List.length_set, ne_eq, Nat.reduceEqDiff, not_false_eq_true, Nat.reduceLT, Nat.zero_ne_one, Nat.one_ne_zero, Nat.lt_add_one, Nat.zero_lt_succ, startD, List.map_cons, List.map_nil, List.length_cons, List.length_nil, List.cons_append, List.nil_append, Nat.reduceAdd, Nat.reduceSub, Nat.zero_add, List.replicate_succ, List.replicate_zero, sl, s1, s3, s6, Bool.false_eq_true, if_false]
    rw [W_ixL ex gt]
    try simp only [W_seq, W_asg, W_set, W_V, WV_some, W_C, W_op, W_cmpT, W_isB, W_un, W_tru, W_andT, W_orT, W_notT, W_andV, W_orV, W_notV, W_ife, W_nil, W_cons, W_tup, W_lst, W_addI, W_subI, W_iaddI, W_negI, W_mulI, W_fdivI, W_modI, W_powI, W_cmpI, W_isB_bl, W_isNB, W_isN, W_isntB, W_isntN, W_eqI, W_neI, W_pass, W_brk, W_cont, W_drop, W_rt, W_rtN, W_ifS, W_gsNil, W_gsCons, W_gTup, W_aug, W_call, W_B, RtN_rt, RtN_nx, W_abs, W_intI, W_intB, W_noPart, W_part, W_sl, W_lm, W_lm0, W_iter, W_range1, W_range2, W_forE, W_revE, W_compE, W_yes, W_lenT, W_truB, W_truI, List.append_nil, List.getElem?_cons_zero, List.getElem?_cons_succ, List.set_cons_zero, List.set_cons_succ, List.getElem?_set_self, List.getElem?_set_ne, List.length_set, ne_eq, Nat.reduceEqDiff, not_false_eq_true, Nat.reduceLT, Nat.zero_ne_one, Nat.one_ne_zero, Nat.lt_add_one, Nat.zero_lt_succ, startD, List.map_cons, List.map_nil, List.length_cons, List.length_nil, List.cons_append, List.nil_append, Nat.reduceAdd, Nat.reduceSub, Nat.zero_add, List.replicate_succ, List.replicate_zero, sl, s1, s3, s6]
    rw [W_ixT (d := .int dd) rfl]
    try simp only [W_seq, W_asg, W_set, W_V, WV_some, W_C, W_op, W_cmpT, W_isB, W_un, W_tru, W_andT, W_orT, W_notT, W_andV, W_orV, W_notV, W_ife, W_nil, W_cons, W_tup, W_lst, W_addI, W_subI, W_iaddI, W_negI, W_mulI, W_fdivI, W_modI, W_powI, W_cmpI, W_isB_bl, W_isNB, W_isN, W_isntB, W_isntN, W_eqI, W_neI, W_pass, W_brk, W_cont, W_drop, W_rt, W_rtN, W_ifS, W_gsNil, W_gsCons, W_gTup, W_aug, W_call, W_B, RtN_rt, RtN_nx, W_abs, W_intI, W_intB, W_noPart, W_part, W_sl, W_lm, W_lm0, W_iter, W_range1, W_range2, W_forE, W_revE, W_compE, W_yes, W_lenT, W_truB, W_truI, List.append_nil, List.getElem?_cons_zero, List.getElem?_cons_succ, List.set_cons_zero, List.set_cons_succ, List.getElem?_set_self, List.getElem?_set_ne, List.length_set, ne_eq, Nat.reduceEqDiff, not_false_eq_true, Nat.reduceLT, Nat.zero_ne_one, Nat.one_ne_zero, Nat.lt_add_one, Nat.zero_lt_succ, startD, List.map_cons, List.map_nil, List.length_cons, List.length_nil, List.cons_append, List.nil_append, Nat.reduceAdd, Nat.reduceSub, Nat.zero_add, List.replicate_succ, List.replicate_zero, sl, s1, s3, s6]
    refine give_law (m := m) (d := dd) (ia := mci ts[i] m) (id' := dd + ts[i].2.2) hti (by omega) ?_
    rw [show (decide (mci ts[i] m ≤ mci ts[i] m) && (decide (dd + ts[i].2.2 ≤ dd + ts[i].2.2) && decide (dd < dd))) = false by simp]
    try simp only [W_seq, W_asg, W_set, W_V, WV_some, W_C, W_op, W_cmpT, W_isB, W_un, W_tru, W_andT, W_orT, W_notT, W_andV, W_orV, W_notV, W_ife, W_nil, W_cons, W_tup, W_lst, W_addI, W_subI, W_iaddI, W_negI, W_mulI, W_fdivI, W_modI, W_powI, W_cmpI, W_isB_bl, W_isNB, W_isN, W_isntB, W_isntN, W_eqI, W_neI, W_pass, W_brk, W_cont, W_drop, W_rt, W_rtN, W_ifS, W_gsNil, W_gsCons, W_gTup, W_aug, W_call, W_B, RtN_rt, RtN_nx, W_abs, W_intI, W_intB, W_noPart, W_part, W_sl, W_lm, W_lm0, W_iter, W_range1, W_range2, W_forE, W_revE, W_compE, W_yes, W_lenT, W_truB, W_truI, List.append_nil, List.getElem?_cons_zero, List.getElem?_cons_succ, List.set_cons_zero, List.set_cons_succ, List.getElem?_set_self, List.getElem?_set_ne, List.length_set, ne_eq, Nat.reduceEqDiff, not_false_eq_true, Nat.reduceLT, Nat.zero_ne_one, Nat.one_ne_zero, Nat.lt_add_one, Nat.zero_lt_succ, startD, List.map_cons, List.map_nil, List.length_cons, List.length_nil, List.cons_append, List.nil_append, Nat.reduceAdd, Nat.reduceSub, Nat.zero_add, List.replicate_succ, List.replicate_zero, sl, s1, s3, s6]
    rw [show (!(false == false)) = false from rfl]
    try simp only [W_seq, W_asg, W_set, W_V, WV_some, W_C, W_op, W_cmpT, W_isB, W_un, W_tru, W_andT, W_orT, W_notT, W_andV, W_orV, W_notV, W_ife, W_nil, W_cons, W_tup, W_lst, W_addI, W_subI, W_iaddI, W_negI, W_mulI, W_fdivI, W_modI, W_powI, W_cmpI, W_isB_bl, W_isNB, W_isN, W_isntB, W_isntN, W_eqI, W_neI, W_pass, W_brk, W_cont, W_drop, W_rt, W_rtN, W_ifS, W_gsNil, W_gsCons, W_gTup, W_aug, W_call, W_B, RtN_rt, RtN_nx, W_abs, W_intI, W_intB, W_noPart, W_part, W_sl, W_lm, W_lm0, W_iter, W_range1, W_range2, W_forE, W_revE, W_compE, W_yes, W_lenT, W_truB, W_truI, List.append_nil, List.getElem?_cons_zero, List.getElem?_cons_succ, List.set_cons_zero, List.set_cons_succ, List.getElem?_set_self, List.getElem?_set_ne, List.length_set, ne_eq, Nat.reduceEqDiff, not_false_eq_true, Nat.reduceLT, Nat.zero_ne_one, Nat.one_ne_zero, Nat.lt_add_one, Nat.zero_lt_succ, startD, List.map_cons, List.map_nil, List.length_cons, List.length_nil, List.cons_append, List.nil_append, Nat.reduceAdd, Nat.reduceSub, Nat.zero_add, List.replicate_succ, List.replicate_zero, sl, s1, s3, s6, Bool.false_eq_true, if_false]
    rw [W_ixL ex gt]
    try simp only [W_seq, W_asg, W_set, W_V, WV_some, W_C, W_op, W_cmpT, W_isB, W_un, W_tru, W_andT, W_orT, W_notT, W_andV, W_orV, W_notV, W_ife, W_nil, W_cons, W_tup, W_lst, W_addI, W_subI, W_iaddI, W_negI, W_mulI, W_fdivI, W_modI, W_powI, W_cmpI, W_isB_bl, W_isNB, W_isN, W_isntB, W_isntN, W_eqI, W_neI, W_pass, W_brk, W_cont, W_drop, W_rt, W_rtN, W_ifS, W_gsNil, W_gsCons, W_gTup, W_aug, W_call, W_B, RtN_rt, RtN_nx, W_abs, W_intI, W_intB, W_noPart, W_part, W_sl, W_lm, W_lm0, W_iter, W_range1, W_range2, W_forE, W_revE, W_compE, W_yes, W_lenT, W_truB, W_truI, List.append_nil, List.getElem?_cons_zero, List.getElem?_cons_succ, List.set_cons_zero, List.set_cons_succ, List.getElem?_set_self, List.getElem?_set_ne, List.length_set, ne_eq, Nat.reduceEqDiff, not_false_eq_true, Nat.reduceLT, Nat.zero_ne_one, Nat.one_ne_zero, Nat.lt_add_one, Nat.zero_lt_succ, startD, List.map_cons, List.map_nil, List.length_cons, List.length_nil, List.cons_append, List.nil_append, Nat.reduceAdd, Nat.reduceSub, Nat.zero_add, List.replicate_succ, List.replicate_zero, sl, s1, s3, s6]
    rw [W_ixT (d := .int (mci ts[i] m)) rfl]
    try simp only [W_seq, W_asg, W_set, W_V, WV_some, W_C, W_op, W_cmpT, W_isB, W_un, W_tru, W_andT, W_orT, W_notT, W_andV, W_orV, W_notV, W_ife, W_nil, W_cons, W_tup, W_lst, W_addI, W_subI, W_iaddI, W_negI, W_mulI, W_fdivI, W_modI, W_powI, W_cmpI, W_isB_bl, W_isNB, W_isN, W_isntB, W_isntN, W_eqI, W_neI, W_pass, W_brk, W_cont, W_drop, W_rt, W_rtN, W_ifS, W_gsNil, W_gsCons, W_gTup, W_aug, W_call, W_B, RtN_rt, RtN_nx, W_abs, W_intI, W_intB, W_noPart, W_part, W_sl, W_lm, W_lm0, W_iter, W_range1, W_range2, W_forE, W_revE, W_compE, W_yes, W_lenT, W_truB, W_truI, List.append_nil, List.getElem?_cons_zero, List.getElem?_cons_succ, List.set_cons_zero, List.set_cons_succ, List.getElem?_set_self, List.getElem?_set_ne, List.length_set, ne_eq, Nat.reduceEqDiff, not_false_eq_true, Nat.reduceLT, Nat.zero_ne_one, Nat.one_ne_zero, Nat.lt_add_one, Nat.zero_lt_succ, startD, List.map_cons, List.map_nil, List.length_cons, List.length_nil, List.cons_append, List.nil_append, Nat.reduceAdd, Nat.reduceSub, Nat.zero_add, List.replicate_succ, List.replicate_zero, sl, s1, s3, s6]
    rw [W_ixT (d := .int (dd + ts[i].2.2)) rfl]
    try simp only [W_seq, W_asg, W_set, W_V, WV_some, W_C, W_op, W_cmpT, W_isB, W_un, W_tru, W_andT, W_orT, W_notT, W_andV, W_orV, W_notV, W_ife, W_nil, W_cons, W_tup, W_lst, W_addI, W_subI, W_iaddI, W_negI, W_mulI, W_fdivI, W_modI, W_powI, W_cmpI, W_isB_bl, W_isNB, W_isN, W_isntB, W_isntN, W_eqI, W_neI, W_pass, W_brk, W_cont, W_drop, W_rt, W_rtN, W_ifS, W_gsNil, W_gsCons, W_gTup, W_aug, W_call, W_B, RtN_rt, RtN_nx, W_abs, W_intI, W_intB, W_noPart, W_part, W_sl, W_lm, W_lm0, W_iter, W_range1, W_range2, W_forE, W_revE, W_compE, W_yes, W_lenT, W_truB, W_truI, List.append_nil, List.getElem?_cons_zero, List.getElem?_cons_succ, List.set_cons_zero, List.set_cons_succ, List.getElem?_set_self, List.getElem?_set_ne, List.length_set, ne_eq, Nat.reduceEqDiff, not_false_eq_true, Nat.reduceLT, Nat.zero_ne_one, Nat.one_ne_zero, Nat.lt_add_one, Nat.zero_lt_succ, startD, List.map_cons, List.map_nil, List.length_cons, List.length_nil, List.cons_append, List.nil_append, Nat.reduceAdd, Nat.reduceSub, Nat.zero_add, List.replicate_succ, List.replicate_zero, sl, s1, s3, s6]
    refine ⟨by decide, ?_⟩
    try simp only [W_seq, W_asg, W_set, W_V, WV_some, W_C, W_op, W_cmpT, W_isB, W_un, W_tru, W_andT, W_orT, W_notT, W_andV, W_orV, W_notV, W_ife, W_nil, W_cons, W_tup, W_lst, W_addI, W_subI, W_iaddI, W_negI, W_mulI, W_fdivI, W_modI, W_powI, W_cmpI, W_isB_bl, W_isNB, W_isN, W_isntB, W_isntN, W_eqI, W_neI, W_pass, W_brk, W_cont, W_drop, W_rt, W_rtN, W_ifS, W_gsNil, W_gsCons, W_gTup, W_aug, W_call, W_B, RtN_rt, RtN_nx, W_abs, W_intI, W_intB, W_noPart, W_part, W_sl, W_lm, W_lm0, W_iter, W_range1, W_range2, W_forE, W_revE, W_compE, W_yes, W_lenT, W_truB, W_truI, List.append_nil, List.getElem?_cons_zero, List.getElem?_cons_succ, List.set_cons_zero, List.set_cons_succ, List.getElem?_set_self, List.getElem?_set_ne, List.length_set, ne_eq, Nat.reduceEqDiff, not_false_eq_true, Nat.reduceLT, Nat.zero_ne_one, Nat.one_ne_zero, Nat.lt_add_one, Nat.zero_lt_succ, startD, List.map_cons, List.map_nil, List.length_cons, List.length_nil, List.cons_append, List.nil_append, Nat.reduceAdd, Nat.reduceSub, Nat.zero_add, List.replicate_succ, List.replicate_zero, sl, s1, s3, s6]
    refine give_law (m := m) (d := dd) (ia := mci ts[i] m - 1) (id' := dd + ts[i].2.2) hti (by omega) ?_
    rw [show decide (mci ts[i] m ≤ mci ts[i] m - 1) = false by simp <;> omega, Bool.false_and]
    try simp only [W_seq, W_asg, W_set, W_V, WV_some, W_C, W_op, W_cmpT, W_isB, W_un, W_tru, W_andT, W_orT, W_notT, W_andV, W_orV, W_notV, W_ife, W_nil, W_cons, W_tup, W_lst, W_addI, W_subI, W_iaddI, W_negI, W_mulI, W_fdivI, W_modI, W_powI, W_cmpI, W_isB_bl, W_isNB, W_isN, W_isntB, W_isntN, W_eqI, W_neI, W_pass, W_brk, W_cont, W_drop, W_rt, W_rtN, W_ifS, W_gsNil, W_gsCons, W_gTup, W_aug, W_call, W_B, RtN_rt, RtN_nx, W_abs, W_intI, W_intB, W_noPart, W_part, W_sl, W_lm, W_lm0, W_iter, W_range1, W_range2, W_forE, W_revE, W_compE, W_yes, W_lenT, W_truB, W_truI, List.append_nil, List.getElem?_cons_zero, List.getElem?_cons_succ, List.set_cons_zero, List.set_cons_succ, List.getElem?_set_self, List.getElem?_set_ne, List.length_set, ne_eq, Nat.reduceEqDiff, not_false_eq_true, Nat.reduceLT, Nat.zero_ne_one, Nat.one_ne_zero, Nat.lt_add_one, Nat.zero_lt_succ, startD, List.map_cons, List.map_nil, List.length_cons, List.length_nil, List.cons_append, List.nil_append, Nat.reduceAdd, Nat.reduceSub, Nat.zero_add, List.replicate_succ, List.replicate_zero, sl, s1, s3, s6]
    rw [show (!(false == false)) = false from rfl]
    try simp only [W_seq, W_asg, W_set, W_V, WV_some, W_C, W_op, W_cmpT, W_isB, W_un, W_tru, W_andT, W_orT, W_notT, W_andV, W_orV, W_notV, W_ife, W_nil, W_cons, W_tup, W_lst, W_addI, W_subI, W_iaddI, W_negI, W_mulI, W_fdivI, W_modI, W_powI, W_cmpI, W_isB_bl, W_isNB, W_isN, W_isntB, W_isntN, W_eqI, W_neI, W_pass, W_brk, W_cont, W_drop, W_rt, W_rtN, W_ifS, W_gsNil, W_gsCons, W_gTup, W_aug, W_call, W_B, RtN_rt, RtN_nx, W_abs, W_intI, W_intB, W_noPart, W_part, W_sl, W_lm, W_lm0, W_iter, W_range1, W_range2, W_forE, W_revE, W_compE, W_yes, W_lenT, W_truB, W_truI, List.append_nil, List.getElem?_cons_zero, List.getElem?_cons_succ, List.set_cons_zero, List.set_cons_succ, List.getElem?_set_self, List.getElem?_set_ne, List.length_set, ne_eq, Nat.reduceEqDiff, not_false_eq_true, Nat.reduceLT, Nat.zero_ne_one, Nat.one_ne_zero, Nat.lt_add_one, Nat.zero_lt_succ, startD, List.map_cons, List.map_nil, List.length_cons, List.length_nil, List.cons_append, List.nil_append, Nat.reduceAdd, Nat.reduceSub, Nat.zero_add, List.replicate_succ, List.replicate_zero, sl, s1, s3, s6, Bool.false_eq_true, if_false]
    rw [W_ixL ex gt]
    try simp only [W_seq, W_asg, W_set, W_V, WV_some, W_C, W_op, W_cmpT, W_isB, W_un, W_tru, W_andT, W_orT, W_notT, W_andV, W_orV, W_notV, W_ife, W_nil, W_cons, W_tup, W_lst, W_addI, W_subI, W_iaddI, W_negI, W_mulI, W_fdivI, W_modI, W_powI, W_cmpI, W_isB_bl, W_isNB, W_isN, W_isntB, W_isntN, W_eqI, W_neI, W_pass, W_brk, W_cont, W_drop, W_rt, W_rtN, W_ifS, W_gsNil, W_gsCons, W_gTup, W_aug, W_call, W_B, RtN_rt, RtN_nx, W_abs, W_intI, W_intB, W_noPart, W_part, W_sl, W_lm, W_lm0, W_iter, W_range1, W_range2, W_forE, W_revE, W_compE, W_yes, W_lenT, W_truB, W_truI, List.append_nil, List.getElem?_cons_zero, List.getElem?_cons_succ, List.set_cons_zero, List.set_cons_succ, List.getElem?_set_self, List.getElem?_set_ne, List.length_set, ne_eq, Nat.reduceEqDiff, not_false_eq_true, Nat.reduceLT, Nat.zero_ne_one, Nat.one_ne_zero, Nat.lt_add_one, Nat.zero_lt_succ, startD, List.map_cons, List.map_nil, List.length_cons, List.length_nil, List.cons_append, List.nil_append, Nat.reduceAdd, Nat.reduceSub, Nat.zero_add, List.replicate_succ, List.replicate_zero, sl, s1, s3, s6]
    rw [W_ixT (d := .int (mci ts[i] m)) rfl]
    try simp only [W_seq, W_asg, W_set, W_V, WV_some, W_C, W_op, W_cmpT, W_isB, W_un, W_tru, W_andT, W_orT, W_notT, W_andV, W_orV, W_notV, W_ife, W_nil, W_cons, W_tup, W_lst, W_addI, W_subI, W_iaddI, W_negI, W_mulI, W_fdivI, W_modI, W_powI, W_cmpI, W_isB_bl, W_isNB, W_isN, W_isntB, W_isntN, W_eqI, W_neI, W_pass, W_brk, W_cont, W_drop, W_rt, W_rtN, W_ifS, W_gsNil, W_gsCons, W_gTup, W_aug, W_call, W_B, RtN_rt, RtN_nx, W_abs, W_intI, W_intB, W_noPart, W_part, W_sl, W_lm, W_lm0, W_iter, W_range1, W_range2, W_forE, W_revE, W_compE, W_yes, W_lenT, W_truB, W_truI, List.append_nil, List.getElem?_cons_zero, List.getElem?_cons_succ, List.set_cons_zero, List.set_cons_succ, List.getElem?_set_self, List.getElem?_set_ne, List.length_set, ne_eq, Nat.reduceEqDiff, not_false_eq_true, Nat.reduceLT, Nat.zero_ne_one, Nat.one_ne_zero, Nat.lt_add_one, Nat.zero_lt_succ, startD, List.map_cons, List.map_nil, List.length_cons, List.length_nil, List.cons_append, List.nil_append, Nat.reduceAdd, Nat.reduceSub, Nat.zero_add, List.replicate_succ, List.replicate_zero, sl, s1, s3, s6]
    rw [W_ixT (d := .int (dd + ts[i].2.2)) rfl]
    try simp only [W_seq, W_asg, W_set, W_V, WV_some, W_C, W_op, W_cmpT, W_isB, W_un, W_tru, W_andT, W_orT, W_notT, W_andV, W_orV, W_notV, W_ife, W_nil, W_cons, W_tup, W_lst, W_addI, W_subI, W_iaddI, W_negI, W_mulI, W_fdivI, W_modI, W_powI, W_cmpI, W_isB_bl, W_isNB, W_isN, W_isntB, W_isntN, W_eqI, W_neI, W_pass, W_brk, W_cont, W_drop, W_rt, W_rtN, W_ifS, W_gsNil, W_gsCons, W_gTup, W_aug, W_call, W_B, RtN_rt, RtN_nx, W_abs, W_intI, W_intB, W_noPart, W_part, W_sl, W_lm, W_lm0, W_iter, W_range1, W_range2, W_forE, W_revE, W_compE, W_yes, W_lenT, W_truB, W_truI, List.append_nil, List.getElem?_cons_zero, List.getElem?_cons_succ, List.set_cons_zero, List.set_cons_succ, List.getElem?_set_self, List.getElem?_set_ne, List.length_set, ne_eq, Nat.reduceEqDiff, not_false_eq_true, Nat.reduceLT, Nat.zero_ne_one, Nat.one_ne_zero, Nat.lt_add_one, Nat.zero_lt_succ, startD, List.map_cons, List.map_nil, List.length_cons, List.length_nil, List.cons_append, List.nil_append, Nat.reduceAdd, Nat.reduceSub, Nat.zero_add, List.replicate_succ, List.replicate_zero, sl, s1, s3, s6]
    refine ⟨by decide, ?_⟩
    try simp only [W_seq, W_asg, W_set, W_V, WV_some, W_C, W_op, W_cmpT, W_isB, W_un, W_tru, W_andT, W_orT, W_notT, W_andV, W_orV, W_notV, W_ife, W_nil, W_cons, W_tup, W_lst, W_addI, W_subI, W_iaddI, W_negI, W_mulI, W_fdivI, W_modI, W_powI, W_cmpI, W_isB_bl, W_isNB, W_isN, W_isntB, W_isntN, W_eqI, W_neI, W_pass, W_brk, W_cont, W_drop, W_rt, W_rtN, W_ifS, W_gsNil, W_gsCons, W_gTup, W_aug, W_call, W_B, RtN_rt, RtN_nx, W_abs, W_intI, W_intB, W_noPart, W_part, W_sl, W_lm, W_lm0, W_iter, W_range1, W_range2, W_forE, W_revE, W_compE, W_yes, W_lenT, W_truB, W_truI, List.append_nil, List.getElem?_cons_zero, List.getElem?_cons_succ, List.set_cons_zero, List.set_cons_succ, List.getElem?_set_self, List.getElem?_set_ne, List.length_set, ne_eq, Nat.reduceEqDiff, not_false_eq_true, Nat.reduceLT, Nat.zero_ne_one, Nat.one_ne_zero, Nat.lt_add_one, Nat.zero_lt_succ, startD, List.map_cons, List.map_nil, List.length_cons, List.length_nil, List.cons_append, List.nil_append, Nat.reduceAdd, Nat.reduceSub, Nat.zero_add, List.replicate_succ, List.replicate_zero, sl, s1, s3, s6]
    refine give_law (m := m) (d := dd) (ia := mci ts[i] m) (id' := dd + ts[i].2.2 - 1) hti (by omega) ?_
    rw [show decide (dd + ts[i].2.2 ≤ dd + ts[i].2.2 - 1) = false by simp <;> omega, Bool.false_and, Bool.and_false]
    try simp only [W_seq, W_asg, W_set, W_V, WV_some, W_C, W_op, W_cmpT, W_isB, W_un, W_tru, W_andT, W_orT, W_notT, W_andV, W_orV, W_notV, W_ife, W_nil, W_cons, W_tup, W_lst, W_addI, W_subI, W_iaddI, W_negI, W_mulI, W_fdivI, W_modI, W_powI, W_cmpI, W_isB_bl, W_isNB, W_isN, W_isntB, W_isntN, W_eqI, W_neI, W_pass, W_brk, W_cont, W_drop, W_rt, W_rtN, W_ifS, W_gsNil, W_gsCons, W_gTup, W_aug, W_call, W_B, RtN_rt, RtN_nx, W_abs, W_intI, W_intB, W_noPart, W_part, W_sl, W_lm, W_lm0, W_iter, W_range1, W_range2, W_forE, W_revE, W_compE, W_yes, W_lenT, W_truB, W_truI, List.append_nil, List.getElem?_cons_zero, List.getElem?_cons_succ, List.set_cons_zero, List.set_cons_succ, List.getElem?_set_self, List.getElem?_set_ne, List.length_set, ne_eq, Nat.reduceEqDiff, not_false_eq_true, Nat.reduceLT, Nat.zero_ne_one, Nat.one_ne_zero, Nat.lt_add_one, Nat.zero_lt_succ, startD, List.map_cons, List.map_nil, List.length_cons, List.length_nil, List.cons_append, List.nil_append, Nat.reduceAdd, Nat.reduceSub, Nat.zero_add, List.replicate_succ, List.replicate_zero, sl, s1, s3, s6]
    rw [show (!(false == false)) = false from rfl]
    try simp only [W_seq, W_asg, W_set, W_V, WV_some, W_C, W_op, W_cmpT, W_isB, W_un, W_tru, W_andT, W_orT, W_notT, W_andV, W_orV, W_notV, W_ife, W_nil, W_cons, W_tup, W_lst, W_addI, W_subI, W_iaddI, W_negI, W_mulI, W_fdivI, W_modI, W_powI, W_cmpI, W_isB_bl, W_isNB, W_isN, W_isntB, W_isntN, W_eqI, W_neI, W_pass, W_brk, W_cont, W_drop, W_rt, W_rtN, W_ifS, W_gsNil, W_gsCons, W_gTup, W_aug, W_call, W_B, RtN_rt, RtN_nx, W_abs, W_intI, W_intB, W_noPart, W_part, W_sl, W_lm, W_lm0, W_iter, W_range1, W_range2, W_forE, W_revE, W_compE, W_yes, W_lenT, W_truB, W_truI, List.append_nil, List.getElem?_cons_zero, List.getElem?_cons_succ, List.set_cons_zero, List.set_cons_succ, List.getElem?_set_self, List.getElem?_set_ne, List.length_set, ne_eq, Nat.reduceEqDiff, not_false_eq_true, Nat.reduceLT, Nat.zero_ne_one, Nat.one_ne_zero, Nat.lt_add_one, Nat.zero_lt_succ, startD, List.map_cons, List.map_nil, List.length_cons, List.length_nil, List.cons_append, List.nil_append, Nat.reduceAdd, Nat.reduceSub, Nat.zero_add, List.replicate_succ, List.replicate_zero, sl, s1, s3, s6, Bool.false_eq_true, if_false]
    exact ⟨by simp [sl], by simp [s1], by simp [s3], by simp [s6], hd1, ex, ew⟩
  · clear ex ew es ef hd9 hd8 F9 hl8 s1 sl
    rintro σ h ⟨sl, s1, s3, s6, hd, ex, ew⟩
    try simp only [W_seq, W_asg, W_set, W_V, WV_some, W_C, W_op, W_cmpT, W_isB, W_un, W_tru, W_andT, W_orT, W_notT, W_andV, W_orV, W_notV, W_ife, W_nil, W_cons, W_tup, W_lst, W_addI, W_subI, W_iaddI, W_negI, W_mulI, W_fdivI, W_modI, W_powI, W_cmpI, W_isB_bl, W_isNB, W_isN, W_isntB, W_isntN, W_eqI, W_neI, W_pass, W_brk, W_cont, W_drop, W_rt, W_rtN, W_ifS, W_gsNil, W_gsCons, W_gTup, W_aug, W_call, W_B, RtN_rt, RtN_nx, W_abs, W_intI, W_intB, W_noPart, W_part, W_sl, W_lm, W_lm0, W_iter, W_range1, W_range2, W_forE, W_revE, W_compE, W_yes, W_lenT, W_truB, W_truI, List.append_nil, List.getElem?_cons_zero, List.getElem?_cons_succ, List.set_cons_zero, List.set_cons_succ, List.getElem?_set_self, List.getElem?_set_ne, List.length_set, ne_eq, Nat.reduceEqDiff, not_false_eq_true, Nat.reduceLT, Nat.zero_ne_one, Nat.one_ne_zero, Nat.lt_add_one, Nat.zero_lt_succ, startD, List.map_cons, List.map_nil, List.length_cons, List.length_nil, List.cons_append, List.nil_append, Nat.reduceAdd, Nat.reduceSub, Nat.zero_add, List.replicate_succ, List.replicate_zero, sl, s1, s3, s6]
    refine take_law hd (by decide) fun a h1 a0 a1 F1 hd1 => ?_
    try simp only [W_seq, W_asg, W_set, W_V, WV_some, W_C, W_op, W_cmpT, W_isB, W_un, W_tru, W_andT, W_orT, W_notT, W_andV, W_orV, W_notV, W_ife, W_nil, W_cons, W_tup, W_lst, W_addI, W_subI, W_iaddI, W_negI, W_mulI, W_fdivI, W_modI, W_powI, W_cmpI, W_isB_bl, W_isNB, W_isN, W_isntB, W_isntN, W_eqI, W_neI, W_pass, W_brk, W_cont, W_drop, W_rt, W_rtN, W_ifS, W_gsNil, W_gsCons, W_gTup, W_aug, W_call, W_B, RtN_rt, RtN_nx, W_abs, W_intI, W_intB, W_noPart, W_part, W_sl, W_lm, W_lm0, W_iter, W_range1, W_range2, W_forE, W_revE, W_compE, W_yes, W_lenT, W_truB, W_truI, List.append_nil, List.getElem?_cons_zero, List.getElem?_cons_succ, List.set_cons_zero, List.set_cons_succ, List.getElem?_set_self, List.getElem?_set_ne, List.length_set, ne_eq, Nat.reduceEqDiff, not_false_eq_true, Nat.reduceLT, Nat.zero_ne_one, Nat.one_ne_zero, Nat.lt_add_one, Nat.zero_lt_succ, startD, List.map_cons, List.map_nil, List.length_cons, List.length_nil, List.cons_append, List.nil_append, Nat.reduceAdd, Nat.reduceSub, Nat.zero_add, List.replicate_succ, List.replicate_zero, sl, s1, s3, s6]
    refine take_law hd1 (by decide) fun b h2 b0 b1 F2 hd2 => ?_
    try simp only [W_seq, W_asg, W_set, W_V, WV_some, W_C, W_op, W_cmpT, W_isB, W_un, W_tru, W_andT, W_orT, W_notT, W_andV, W_orV, W_notV, W_ife, W_nil, W_cons, W_tup, W_lst, W_addI, W_subI, W_iaddI, W_negI, W_mulI, W_fdivI, W_modI, W_powI, W_cmpI, W_isB_bl, W_isNB, W_isN, W_isntB, W_isntN, W_eqI, W_neI, W_pass, W_brk, W_cont, W_drop, W_rt, W_rtN, W_ifS, W_gsNil, W_gsCons, W_gTup, W_aug, W_call, W_B, RtN_rt, RtN_nx, W_abs, W_intI, W_intB, W_noPart, W_part, W_sl, W_lm, W_lm0, W_iter, W_range1, W_range2, W_forE, W_revE, W_compE, W_yes, W_lenT, W_truB, W_truI, List.append_nil, List.getElem?_cons_zero, List.getElem?_cons_succ, List.set_cons_zero, List.set_cons_succ, List.getElem?_set_self, List.getElem?_set_ne, List.length_set, ne_eq, Nat.reduceEqDiff, not_false_eq_true, Nat.reduceLT, Nat.zero_ne_one, Nat.one_ne_zero, Nat.lt_add_one, Nat.zero_lt_succ, startD, List.map_cons, List.map_nil, List.length_cons, List.length_nil, List.cons_append, List.nil_append, Nat.reduceAdd, Nat.reduceSub, Nat.zero_add, List.replicate_succ, List.replicate_zero, sl, s1, s3, s6]
    refine ⟨by decide, ?_⟩
    try simp only [W_seq, W_asg, W_set, W_V, WV_some, W_C, W_op, W_cmpT, W_isB, W_un, W_tru, W_andT, W_orT, W_notT, W_andV, W_orV, W_notV, W_ife, W_nil, W_cons, W_tup, W_lst, W_addI, W_subI, W_iaddI, W_negI, W_mulI, W_fdivI, W_modI, W_powI, W_cmpI, W_isB_bl, W_isNB, W_isN, W_isntB, W_isntN, W_eqI, W_neI, W_pass, W_brk, W_cont, W_drop, W_rt, W_rtN, W_ifS, W_gsNil, W_gsCons, W_gTup, W_aug, W_call, W_B, RtN_rt, RtN_nx, W_abs, W_intI, W_intB, W_noPart, W_part, W_sl, W_lm, W_lm0, W_iter, W_range1, W_range2, W_forE, W_revE, W_compE, W_yes, W_lenT, W_truB, W_truI, List.append_nil, List.getElem?_cons_zero, List.getElem?_cons_succ, List.set_cons_zero, List.set_cons_succ, List.getElem?_set_self, List.getElem?_set_ne, List.length_set, ne_eq, Nat.reduceEqDiff, not_false_eq_true, Nat.reduceLT, Nat.zero_ne_one, Nat.one_ne_zero, Nat.lt_add_one, Nat.zero_lt_succ, startD, List.map_cons, List.map_nil, List.length_cons, List.length_nil, List.cons_append, List.nil_append, Nat.reduceAdd, Nat.reduceSub, Nat.zero_add, List.replicate_succ, List.replicate_zero, sl, s1, s3, s6]
    rw [W_ixT (d := .int a) rfl]
    try simp only [W_seq, W_asg, W_set, W_V, WV_some, W_C, W_op, W_cmpT, W_isB, W_un, W_tru, W_andT, W_orT, W_notT, W_andV, W_orV, W_notV, W_ife, W_nil, W_cons, W_tup, W_lst, W_addI, W_subI, W_iaddI, W_negI, W_mulI, W_fdivI, W_modI, W_powI, W_cmpI, W_isB_bl, W_isNB, W_isN, W_isntB, W_isntN, W_eqI, W_neI, W_pass, W_brk, W_cont, W_drop, W_rt, W_rtN, W_ifS, W_gsNil, W_gsCons, W_gTup, W_aug, W_call, W_B, RtN_rt, RtN_nx, W_abs, W_intI, W_intB, W_noPart, W_part, W_sl, W_lm, W_lm0, W_iter, W_range1, W_range2, W_forE, W_revE, W_compE, W_yes, W_lenT, W_truB, W_truI, List.append_nil, List.getElem?_cons_zero, List.getElem?_cons_succ, List.set_cons_zero, List.set_cons_succ, List.getElem?_set_self, List.getElem?_set_ne, List.length_set, ne_eq, Nat.reduceEqDiff, not_false_eq_true, Nat.reduceLT, Nat.zero_ne_one, Nat.one_ne_zero, Nat.lt_add_one, Nat.zero_lt_succ, startD, List.map_cons, List.map_nil, List.length_cons, List.length_nil, List.cons_append, List.nil_append, Nat.reduceAdd, Nat.reduceSub, Nat.zero_add, List.replicate_succ, List.replicate_zero, sl, s1, s3, s6]
    refine take_law hd2 (by decide) fun c h3 c0 c1 F3 hd3 => ?_
    try simp only [W_seq, W_asg, W_set, W_V, WV_some, W_C, W_op, W_cmpT, W_isB, W_un, W_tru, W_andT, W_orT, W_notT, W_andV, W_orV, W_notV, W_ife, W_nil, W_cons, W_tup, W_lst, W_addI, W_subI, W_iaddI, W_negI, W_mulI, W_fdivI, W_modI, W_powI, W_cmpI, W_isB_bl, W_isNB, W_isN, W_isntB, W_isntN, W_eqI, W_neI, W_pass, W_brk, W_cont, W_drop, W_rt, W_rtN, W_ifS, W_gsNil, W_gsCons, W_gTup, W_aug, W_call, W_B, RtN_rt, RtN_nx, W_abs, W_intI, W_intB, W_noPart, W_part, W_sl, W_lm, W_lm0, W_iter, W_range1, W_range2, W_forE, W_revE, W_compE, W_yes, W_lenT, W_truB, W_truI, List.append_nil, List.getElem?_cons_zero, List.getElem?_cons_succ, List.set_cons_zero, List.set_cons_succ, List.getElem?_set_self, List.getElem?_set_ne, List.length_set, ne_eq, Nat.reduceEqDiff, not_false_eq_true, Nat.reduceLT, Nat.zero_ne_one, Nat.one_ne_zero, Nat.lt_add_one, Nat.zero_lt_succ, startD, List.map_cons, List.map_nil, List.length_cons, List.length_nil, List.cons_append, List.nil_append, Nat.reduceAdd, Nat.reduceSub, Nat.zero_add, List.replicate_succ, List.replicate_zero, sl, s1, s3, s6]
    have okab : okT (a, b, 0) := ⟨⟨a0, a1⟩, ⟨b0, b1⟩, Int.le_refl _, (by decide : (0 : Int) < 9)⟩
    have emc : ∀ m : Int, mci (a, b, 0) m = m + a + (m * b + 999) / 1000 := fun _ => rfl
    refine ⟨_, _, rfl, by decide, ?_⟩
    refine w_forR (fun i σ h => σ.length = 18 ∧ σ[1]? = some (some (.ref 1)) ∧ Dk h ∧ σ[11]? = some (some (tD (a, b, 0))) ∧ σ[12]? = some (some (.int (a + c))) ∧ ∃ out : Int, σ[13]? = some (some (.int out)) ∧ 0 ≤ out ∧ out ≤ i ∧ mci (a, b, 0) out ≤ a + c ∧ ∀ m : Int, out < m → m ≤ i → a + c < mci (a, b, 0) m) ⟨by simp [sl], by simp [s1], hd3, by simp [sl, tD], by simp [sl], 0, by simp [sl], Int.le_refl _, Int.le_refl _, by simp [mci]; omega, fun m h1 h2 => by simp at h2; omega⟩ ?_ ?_
    · rintro i σ h hi ⟨sl, s1, hd, s11, s12, out, s13, o0, o1, o2, o3⟩
      suffices z : ∀ QX : Fl → Hd → Prop, (∀ (σ' : Ev) (h2 : Hd), (σ'.length = 18 ∧ σ'[1]? = some (some (.ref 1)) ∧ Dk h2 ∧ σ'[11]? = some (some (tD (a, b, 0))) ∧ σ'[12]? = some (some (.int (a + c))) ∧ ∃ out : Int, σ'[13]? = some (some (.int out)) ∧ 0 ≤ out ∧ out ≤ ((i + 1 : Nat) : Int) ∧ mci (a, b, 0) out ≤ a + c ∧ ∀ m : Int, out < m → m ≤ ((i + 1 : Nat) : Int) → a + c < mci (a, b, 0) m) → QX (.nx σ') h2) → W (gSet 14 (.int (1 + (i : Int))) σ) h fun σ1 h1 => W (L_law_1 σ1) h1 QX from z _ fun σ' h2 p => p
      intro QX hQ
      unfold L_law_1
      try simp only [W_seq, W_asg, W_set, W_V, WV_some, W_C, W_op, W_cmpT, W_isB, W_un, W_tru, W_andT, W_orT, W_notT, W_andV, W_orV, W_notV, W_ife, W_nil, W_cons, W_tup, W_lst, W_addI, W_subI, W_iaddI, W_negI, W_mulI, W_fdivI, W_modI, W_powI, W_cmpI, W_isB_bl, W_isNB, W_isN, W_isntB, W_isntN, W_eqI, W_neI, W_pass, W_brk, W_cont, W_drop, W_rt, W_rtN, W_ifS, W_gsNil, W_gsCons, W_gTup, W_aug, W_call, W_B, RtN_rt, RtN_nx, W_abs, W_intI, W_intB, W_noPart, W_part, W_sl, W_lm, W_lm0, W_iter, W_range1, W_range2, W_forE, W_revE, W_compE, W_yes, W_lenT, W_truB, W_truI, List.append_nil, List.getElem?_cons_zero, List.getElem?_cons_succ, List.set_cons_zero, List.set_cons_succ, List.getElem?_set_self, List.getElem?_set_ne, List.length_set, ne_eq, Nat.reduceEqDiff, not_false_eq_true, Nat.reduceLT, Nat.zero_ne_one, Nat.one_ne_zero, Nat.lt_add_one, Nat.zero_lt_succ, startD, List.map_cons, List.map_nil, List.length_cons, List.length_nil, List.cons_append, List.nil_append, Nat.reduceAdd, Nat.reduceSub, Nat.zero_add, List.replicate_succ, List.replicate_zero, sl, s1, s11, s12, s13]
      refine mci_law okab ?_
      try simp only [W_seq, W_asg, W_set, W_V, WV_some, W_C, W_op, W_cmpT, W_isB, W_un, W_tru, W_andT, W_orT, W_notT, W_andV, W_orV, W_notV, W_ife, W_nil, W_cons, W_tup, W_lst, W_addI, W_subI, W_iaddI, W_negI, W_mulI, W_fdivI, W_modI, W_powI, W_cmpI, W_isB_bl, W_isNB, W_isN, W_isntB, W_isntN, W_eqI, W_neI, W_pass, W_brk, W_cont, W_drop, W_rt, W_rtN, W_ifS, W_gsNil, W_gsCons, W_gTup, W_aug, W_call, W_B, RtN_rt, RtN_nx, W_abs, W_intI, W_intB, W_noPart, W_part, W_sl, W_lm, W_lm0, W_iter, W_range1, W_range2, W_forE, W_revE, W_compE, W_yes, W_lenT, W_truB, W_truI, List.append_nil, List.getElem?_cons_zero, List.getElem?_cons_succ, List.set_cons_zero, List.set_cons_succ, List.getElem?_set_self, List.getElem?_set_ne, List.length_set, ne_eq, Nat.reduceEqDiff, not_false_eq_true, Nat.reduceLT, Nat.zero_ne_one, Nat.one_ne_zero, Nat.lt_add_one, Nat.zero_lt_succ, startD, List.map_cons, List.map_nil, List.length_cons, List.length_nil, List.cons_append, List.nil_append, Nat.reduceAdd, Nat.reduceSub, Nat.zero_add, List.replicate_succ, List.replicate_zero, sl, s1, s11, s12, s13]
      obtain ⟨cf1, cf2⟩ := ceil_fact (1 + (i : Int)) b b0
      have tail : ∀ (out' : Int), 0 ≤ out' → out' ≤ ((i + 1 : Nat) : Int) → mci (a, b, 0) out' ≤ a + c → (∀ m : Int, out' < m → m ≤ ((i + 1 : Nat) : Int) → a + c < mci (a, b, 0) m) → W (xIfS (xOrT (xCmpT leM (xCall (F_must_come_in) [] (xCons (xV 11) (xCons (xV 14) (xNil)))) (xCall (F_must_come_in) [] (xCons (xV 11) (xCons (xOp subM (xV 14) (xC (.int 1))) (xNil))))) (xCmpT neM (xCall (F_must_come_in) [] (xCons (xV 11) (xCons (xV 14) (xNil)))) (xOp subM (xOp addM (xV 14) (xOp ixM (xV 11) (xC (.int 0)))) (xOp fdivM (xOp mulM (xUn negM (xV 14)) (xOp ixM (xV 11) (xC (.int 1)))) (xC (.int 1000)))))) (xRet (xC (.bl false))) (xPass) ((σ.set 14 (some (.int (1 + (i : Int))))).set 13 (some (.int out')))) h QX := by
        intro out' p0 p1 p2 p3
        try simp only [W_seq, W_asg, W_set, W_V, WV_some, W_C, W_op, W_cmpT, W_isB, W_un, W_tru, W_andT, W_orT, W_notT, W_andV, W_orV, W_notV, W_ife, W_nil, W_cons, W_tup, W_lst, W_addI, W_subI, W_iaddI, W_negI, W_mulI, W_fdivI, W_modI, W_powI, W_cmpI, W_isB_bl, W_isNB, W_isN, W_isntB, W_isntN, W_eqI, W_neI, W_pass, W_brk, W_cont, W_drop, W_rt, W_rtN, W_ifS, W_gsNil, W_gsCons, W_gTup, W_aug, W_call, W_B, RtN_rt, RtN_nx, W_abs, W_intI, W_intB, W_noPart, W_part, W_sl, W_lm, W_lm0, W_iter, W_range1, W_range2, W_forE, W_revE, W_compE, W_yes, W_lenT, W_truB, W_truI, List.append_nil, List.getElem?_cons_zero, List.getElem?_cons_succ, List.set_cons_zero, List.set_cons_succ, List.getElem?_set_self, List.getElem?_set_ne, List.length_set, ne_eq, Nat.reduceEqDiff, not_false_eq_true, Nat.reduceLT, Nat.zero_ne_one, Nat.one_ne_zero, Nat.lt_add_one, Nat.zero_lt_succ, startD, List.map_cons, List.map_nil, List.length_cons, List.length_nil, List.cons_append, List.nil_append, Nat.reduceAdd, Nat.reduceSub, Nat.zero_add, List.replicate_succ, List.replicate_zero, sl, s1, s11, s12, s13]
        refine mci_law okab ?_
        try simp only [W_seq, W_asg, W_set, W_V, WV_some, W_C, W_op, W_cmpT, W_isB, W_un, W_tru, W_andT, W_orT, W_notT, W_andV, W_orV, W_notV, W_ife, W_nil, W_cons, W_tup, W_lst, W_addI, W_subI, W_iaddI, W_negI, W_mulI, W_fdivI, W_modI, W_powI, W_cmpI, W_isB_bl, W_isNB, W_isN, W_isntB, W_isntN, W_eqI, W_neI, W_pass, W_brk, W_cont, W_drop, W_rt, W_rtN, W_ifS, W_gsNil, W_gsCons, W_gTup, W_aug, W_call, W_B, RtN_rt, RtN_nx, W_abs, W_intI, W_intB, W_noPart, W_part, W_sl, W_lm, W_lm0, W_iter, W_range1, W_range2, W_forE, W_revE, W_compE, W_yes, W_lenT, W_truB, W_truI, List.append_nil, List.getElem?_cons_zero, List.getElem?_cons_succ, List.set_cons_zero, List.set_cons_succ, List.getElem?_set_self, List.getElem?_set_ne, List.length_set, ne_eq, Nat.reduceEqDiff, not_false_eq_true, Nat.reduceLT, Nat.zero_ne_one, Nat.one_ne_zero, Nat.lt_add_one, Nat.zero_lt_succ, startD, List.map_cons, List.map_nil, List.length_cons, List.length_nil, List.cons_append, List.nil_append, Nat.reduceAdd, Nat.reduceSub, Nat.zero_add, List.replicate_succ, List.replicate_zero, sl, s1, s11, s12, s13]
        refine mci_law okab ?_
        try simp only [W_seq, W_asg, W_set, W_V, WV_some, W_C, W_op, W_cmpT, W_isB, W_un, W_tru, W_andT, W_orT, W_notT, W_andV, W_orV, W_notV, W_ife, W_nil, W_cons, W_tup, W_lst, W_addI, W_subI, W_iaddI, W_negI, W_mulI, W_fdivI, W_modI, W_powI, W_cmpI, W_isB_bl, W_isNB, W_isN, W_isntB, W_isntN, W_eqI, W_neI, W_pass, W_brk, W_cont, W_drop, W_rt, W_rtN, W_ifS, W_gsNil, W_gsCons, W_gTup, W_aug, W_call, W_B, RtN_rt, RtN_nx, W_abs, W_intI, W_intB, W_noPart, W_part, W_sl, W_lm, W_lm0, W_iter, W_range1, W_range2, W_forE, W_revE, W_compE, W_yes, W_lenT, W_truB, W_truI, List.append_nil, List.getElem?_cons_zero, List.getElem?_cons_succ, List.set_cons_zero, List.set_cons_succ, List.getElem?_set_self, List.getElem?_set_ne, List.length_set, ne_eq, Nat.reduceEqDiff, not_false_eq_true, Nat.reduceLT, Nat.zero_ne_one, Nat.one_ne_zero, Nat.lt_add_one, Nat.zero_lt_succ, startD, List.map_cons, List.map_nil, List.length_cons, List.length_nil, List.cons_append, List.nil_append, Nat.reduceAdd, Nat.reduceSub, Nat.zero_add, List.replicate_succ, List.replicate_zero, sl, s1, s11, s12, s13]
        rw [show decide (mci (a, b, 0) (1 + (i : Int)) ≤ mci (a, b, 0) (1 + (i : Int) - 1)) = false by rw [decide_eq_false_iff_not, emc, emc]; omega]
        try simp only [W_seq, W_asg, W_set, W_V, WV_some, W_C, W_op, W_cmpT, W_isB, W_un, W_tru, W_andT, W_orT, W_notT, W_andV, W_orV, W_notV, W_ife, W_nil, W_cons, W_tup, W_lst, W_addI, W_subI, W_iaddI, W_negI, W_mulI, W_fdivI, W_modI, W_powI, W_cmpI, W_isB_bl, W_isNB, W_isN, W_isntB, W_isntN, W_eqI, W_neI, W_pass, W_brk, W_cont, W_drop, W_rt, W_rtN, W_ifS, W_gsNil, W_gsCons, W_gTup, W_aug, W_call, W_B, RtN_rt, RtN_nx, W_abs, W_intI, W_intB, W_noPart, W_part, W_sl, W_lm, W_lm0, W_iter, W_range1, W_range2, W_forE, W_revE, W_compE, W_yes, W_lenT, W_truB, W_truI, List.append_nil, List.getElem?_cons_zero, List.getElem?_cons_succ, List.set_cons_zero, List.set_cons_succ, List.getElem?_set_self, List.getElem?_set_ne, List.length_set, ne_eq, Nat.reduceEqDiff, not_false_eq_true, Nat.reduceLT, Nat.zero_ne_one, Nat.one_ne_zero, Nat.lt_add_one, Nat.zero_lt_succ, startD, List.map_cons, List.map_nil, List.length_cons, List.length_nil, List.cons_append, List.nil_append, Nat.reduceAdd, Nat.reduceSub, Nat.zero_add, List.replicate_succ, List.replicate_zero, sl, s1, s11, s12, s13, Bool.false_eq_true, if_false]
        refine mci_law okab ?_
        try simp only [W_seq, W_asg, W_set, W_V, WV_some, W_C, W_op, W_cmpT, W_isB, W_un, W_tru, W_andT, W_orT, W_notT, W_andV, W_orV, W_notV, W_ife, W_nil, W_cons, W_tup, W_lst, W_addI, W_subI, W_iaddI, W_negI, W_mulI, W_fdivI, W_modI, W_powI, W_cmpI, W_isB_bl, W_isNB, W_isN, W_isntB, W_isntN, W_eqI, W_neI, W_pass, W_brk, W_cont, W_drop, W_rt, W_rtN, W_ifS, W_gsNil, W_gsCons, W_gTup, W_aug, W_call, W_B, RtN_rt, RtN_nx, W_abs, W_intI, W_intB, W_noPart, W_part, W_sl, W_lm, W_lm0, W_iter, W_range1, W_range2, W_forE, W_revE, W_compE, W_yes, W_lenT, W_truB, W_truI, List.append_nil, List.getElem?_cons_zero, List.getElem?_cons_succ, List.set_cons_zero, List.set_cons_succ, List.getElem?_set_self, List.getElem?_set_ne, List.length_set, ne_eq, Nat.reduceEqDiff, not_false_eq_true, Nat.reduceLT, Nat.zero_ne_one, Nat.one_ne_zero, Nat.lt_add_one, Nat.zero_lt_succ, startD, List.map_cons, List.map_nil, List.length_cons, List.length_nil, List.cons_append, List.nil_append, Nat.reduceAdd, Nat.reduceSub, Nat.zero_add, List.replicate_succ, List.replicate_zero, sl, s1, s11, s12, s13]
        rw [show tD (a, b, 0) = .tup [.int a, .int b, .int 0] from rfl, W_ixT (d := .int a) rfl]
        try simp only [W_seq, W_asg, W_set, W_V, WV_some, W_C, W_op, W_cmpT, W_isB, W_un, W_tru, W_andT, W_orT, W_notT, W_andV, W_orV, W_notV, W_ife, W_nil, W_cons, W_tup, W_lst, W_addI, W_subI, W_iaddI, W_negI, W_mulI, W_fdivI, W_modI, W_powI, W_cmpI, W_isB_bl, W_isNB, W_isN, W_isntB, W_isntN, W_eqI, W_neI, W_pass, W_brk, W_cont, W_drop, W_rt, W_rtN, W_ifS, W_gsNil, W_gsCons, W_gTup, W_aug, W_call, W_B, RtN_rt, RtN_nx, W_abs, W_intI, W_intB, W_noPart, W_part, W_sl, W_lm, W_lm0, W_iter, W_range1, W_range2, W_forE, W_revE, W_compE, W_yes, W_lenT, W_truB, W_truI, List.append_nil, List.getElem?_cons_zero, List.getElem?_cons_succ, List.set_cons_zero, List.set_cons_succ, List.getElem?_set_self, List.getElem?_set_ne, List.length_set, ne_eq, Nat.reduceEqDiff, not_false_eq_true, Nat.reduceLT, Nat.zero_ne_one, Nat.one_ne_zero, Nat.lt_add_one, Nat.zero_lt_succ, startD, List.map_cons, List.map_nil, List.length_cons, List.length_nil, List.cons_append, List.nil_append, Nat.reduceAdd, Nat.reduceSub, Nat.zero_add, List.replicate_succ, List.replicate_zero, sl, s1, s11, s12, s13]
        rw [show tD (a, b, 0) = .tup [.int a, .int b, .int 0] from rfl, W_ixT (d := .int b) rfl]
        try simp only [W_seq, W_asg, W_set, W_V, WV_some, W_C, W_op, W_cmpT, W_isB, W_un, W_tru, W_andT, W_orT, W_notT, W_andV, W_orV, W_notV, W_ife, W_nil, W_cons, W_tup, W_lst, W_addI, W_subI, W_iaddI, W_negI, W_mulI, W_fdivI, W_modI, W_powI, W_cmpI, W_isB_bl, W_isNB, W_isN, W_isntB, W_isntN, W_eqI, W_neI, W_pass, W_brk, W_cont, W_drop, W_rt, W_rtN, W_ifS, W_gsNil, W_gsCons, W_gTup, W_aug, W_call, W_B, RtN_rt, RtN_nx, W_abs, W_intI, W_intB, W_noPart, W_part, W_sl, W_lm, W_lm0, W_iter, W_range1, W_range2, W_forE, W_revE, W_compE, W_yes, W_lenT, W_truB, W_truI, List.append_nil, List.getElem?_cons_zero, List.getElem?_cons_succ, List.set_cons_zero, List.set_cons_succ, List.getElem?_set_self, List.getElem?_set_ne, List.length_set, ne_eq, Nat.reduceEqDiff, not_false_eq_true, Nat.reduceLT, Nat.zero_ne_one, Nat.one_ne_zero, Nat.lt_add_one, Nat.zero_lt_succ, startD, List.map_cons, List.map_nil, List.length_cons, List.length_nil, List.cons_append, List.nil_append, Nat.reduceAdd, Nat.reduceSub, Nat.zero_add, List.replicate_succ, List.replicate_zero, sl, s1, s11, s12, s13]
        refine ⟨.inr ⟨by omega, by omega⟩, by decide, ?_⟩
        try simp only [W_seq, W_asg, W_set, W_V, WV_some, W_C, W_op, W_cmpT, W_isB, W_un, W_tru, W_andT, W_orT, W_notT, W_andV, W_orV, W_notV, W_ife, W_nil, W_cons, W_tup, W_lst, W_addI, W_subI, W_iaddI, W_negI, W_mulI, W_fdivI, W_modI, W_powI, W_cmpI, W_isB_bl, W_isNB, W_isN, W_isntB, W_isntN, W_eqI, W_neI, W_pass, W_brk, W_cont, W_drop, W_rt, W_rtN, W_ifS, W_gsNil, W_gsCons, W_gTup, W_aug, W_call, W_B, RtN_rt, RtN_nx, W_abs, W_intI, W_intB, W_noPart, W_part, W_sl, W_lm, W_lm0, W_iter, W_range1, W_range2, W_forE, W_revE, W_compE, W_yes, W_lenT, W_truB, W_truI, List.append_nil, List.getElem?_cons_zero, List.getElem?_cons_succ, List.set_cons_zero, List.set_cons_succ, List.getElem?_set_self, List.getElem?_set_ne, List.length_set, ne_eq, Nat.reduceEqDiff, not_false_eq_true, Nat.reduceLT, Nat.zero_ne_one, Nat.one_ne_zero, Nat.lt_add_one, Nat.zero_lt_succ, startD, List.map_cons, List.map_nil, List.length_cons, List.length_nil, List.cons_append, List.nil_append, Nat.reduceAdd, Nat.reduceSub, Nat.zero_add, List.replicate_succ, List.replicate_zero, sl, s1, s11, s12, s13]
        rw [show (!(mci (a, b, 0) (1 + (i : Int)) == 1 + (i : Int) + a - -(1 + (i : Int)) * b / 1000)) = false by rw [Bool.not_eq_false', beq_iff_eq, emc]; omega]
        try simp only [W_seq, W_asg, W_set, W_V, WV_some, W_C, W_op, W_cmpT, W_isB, W_un, W_tru, W_andT, W_orT, W_notT, W_andV, W_orV, W_notV, W_ife, W_nil, W_cons, W_tup, W_lst, W_addI, W_subI, W_iaddI, W_negI, W_mulI, W_fdivI, W_modI, W_powI, W_cmpI, W_isB_bl, W_isNB, W_isN, W_isntB, W_isntN, W_eqI, W_neI, W_pass, W_brk, W_cont, W_drop, W_rt, W_rtN, W_ifS, W_gsNil, W_gsCons, W_gTup, W_aug, W_call, W_B, RtN_rt, RtN_nx, W_abs, W_intI, W_intB, W_noPart, W_part, W_sl, W_lm, W_lm0, W_iter, W_range1, W_range2, W_forE, W_revE, W_compE, W_yes, W_lenT, W_truB, W_truI, List.append_nil, List.getElem?_cons_zero, List.getElem?_cons_succ, List.set_cons_zero, List.set_cons_succ, List.getElem?_set_self, List.getElem?_set_ne, List.length_set, ne_eq, Nat.reduceEqDiff, not_false_eq_true, Nat.reduceLT, Nat.zero_ne_one, Nat.one_ne_zero, Nat.lt_add_one, Nat.zero_lt_succ, startD, List.map_cons, List.map_nil, List.length_cons, List.length_nil, List.cons_append, List.nil_append, Nat.reduceAdd, Nat.reduceSub, Nat.zero_add, List.replicate_succ, List.replicate_zero, sl, s1, s11, s12, s13, Bool.false_eq_true, if_false]
        exact hQ _ _ ⟨by simp [sl], by simp [s1], hd, by simp [s11], by simp [s12], out', by simp [sl], p0, p1, p2, p3⟩
      by_cases cc : mci (a, b, 0) (1 + (i : Int)) ≤ a + c
      · have := tail (1 + (i : Int)) (by omega) (by omega) cc (fun m h1 h2 => by omega)
        simp only [cc, decide_true, if_true, W_seq, W_asg, W_set, W_V, WV_some, W_C, W_op, W_cmpT, W_isB, W_un, W_tru, W_andT, W_orT, W_notT, W_andV, W_orV, W_notV, W_ife, W_nil, W_cons, W_tup, W_lst, W_addI, W_subI, W_iaddI, W_negI, W_mulI, W_fdivI, W_modI, W_powI, W_cmpI, W_isB_bl, W_isNB, W_isN, W_isntB, W_isntN, W_eqI, W_neI, W_pass, W_brk, W_cont, W_drop, W_rt, W_rtN, W_ifS, W_gsNil, W_gsCons, W_gTup, W_aug, W_call, W_B, RtN_rt, RtN_nx, W_abs, W_intI, W_intB, W_noPart, W_part, W_sl, W_lm, W_lm0, W_iter, W_range1, W_range2, W_forE, W_revE, W_compE, W_yes, W_lenT, W_truB, W_truI, List.append_nil, List.getElem?_cons_zero, List.getElem?_cons_succ, List.set_cons_zero, List.set_cons_succ, List.getElem?_set_self, List.getElem?_set_ne, List.length_set, ne_eq, Nat.reduceEqDiff, not_false_eq_true, Nat.reduceLT, Nat.zero_ne_one, Nat.one_ne_zero, Nat.lt_add_one, Nat.zero_lt_succ, startD, List.map_cons, List.map_nil, List.length_cons, List.length_nil, List.cons_append, List.nil_append, Nat.reduceAdd, Nat.reduceSub, Nat.zero_add, List.replicate_succ, List.replicate_zero, sl, s1, s11, s12, s13] at this ⊢
        exact this
      · have := tail out o0 (by omega) o2 (fun m h1 h2 => by
          by_cases z : m ≤ (i : Int)
          · exact o3 m h1 z
          · obtain rfl : m = 1 + (i : Int) := by omega
            omega)
        simp only [cc, decide_false, if_false, Bool.false_eq_true, W_seq, W_asg, W_set, W_V, WV_some, W_C, W_op, W_cmpT, W_isB, W_un, W_tru, W_andT, W_orT, W_notT, W_andV, W_orV, W_notV, W_ife, W_nil, W_cons, W_tup, W_lst, W_addI, W_subI, W_iaddI, W_negI, W_mulI, W_fdivI, W_modI, W_powI, W_cmpI, W_isB_bl, W_isNB, W_isN, W_isntB, W_isntN, W_eqI, W_neI, W_pass, W_brk, W_cont, W_drop, W_rt, W_rtN, W_ifS, W_gsNil, W_gsCons, W_gTup, W_aug, W_call, W_B, RtN_rt, RtN_nx, W_abs, W_intI, W_intB, W_noPart, W_part, W_sl, W_lm, W_lm0, W_iter, W_range1, W_range2, W_forE, W_revE, W_compE, W_yes, W_lenT, W_truB, W_truI, List.append_nil, List.getElem?_cons_zero, List.getElem?_cons_succ, List.set_cons_zero, List.set_cons_succ, List.getElem?_set_self, List.getElem?_set_ne, List.length_set, ne_eq, Nat.reduceEqDiff, not_false_eq_true, Nat.reduceLT, Nat.zero_ne_one, Nat.one_ne_zero, Nat.lt_add_one, Nat.zero_lt_succ, startD, List.map_cons, List.map_nil, List.length_cons, List.length_nil, List.cons_append, List.nil_append, Nat.reduceAdd, Nat.reduceSub, Nat.zero_add, List.replicate_succ, List.replicate_zero, sl, s1, s11, s12, s13] at this ⊢
        exact this
    · rintro σ h ⟨sl, s1, hd, s11, s12, out, s13, o0, o1, o2, o3⟩
      try simp only [W_seq, W_asg, W_set, W_V, WV_some, W_C, W_op, W_cmpT, W_isB, W_un, W_tru, W_andT, W_orT, W_notT, W_andV, W_orV, W_notV, W_ife, W_nil, W_cons, W_tup, W_lst, W_addI, W_subI, W_iaddI, W_negI, W_mulI, W_fdivI, W_modI, W_powI, W_cmpI, W_isB_bl, W_isNB, W_isN, W_isntB, W_isntN, W_eqI, W_neI, W_pass, W_brk, W_cont, W_drop, W_rt, W_rtN, W_ifS, W_gsNil, W_gsCons, W_gTup, W_aug, W_call, W_B, RtN_rt, RtN_nx, W_abs, W_intI, W_intB, W_noPart, W_part, W_sl, W_lm, W_lm0, W_iter, W_range1, W_range2, W_forE, W_revE, W_compE, W_yes, W_lenT, W_truB, W_truI, List.append_nil, List.getElem?_cons_zero, List.getElem?_cons_succ, List.set_cons_zero, List.set_cons_succ, List.getElem?_set_self, List.getElem?_set_ne, List.length_set, ne_eq, Nat.reduceEqDiff, not_false_eq_true, Nat.reduceLT, Nat.zero_ne_one, Nat.one_ne_zero, Nat.lt_add_one, Nat.zero_lt_succ, startD, List.map_cons, List.map_nil, List.length_cons, List.length_nil, List.cons_append, List.nil_append, Nat.reduceAdd, Nat.reduceSub, Nat.zero_add, List.replicate_succ, List.replicate_zero, sl, s1, s11, s12, s13]
      refine mci_law okab ?_
      try simp only [W_seq, W_asg, W_set, W_V, WV_some, W_C, W_op, W_cmpT, W_isB, W_un, W_tru, W_andT, W_orT, W_notT, W_andV, W_orV, W_notV, W_ife, W_nil, W_cons, W_tup, W_lst, W_addI, W_subI, W_iaddI, W_negI, W_mulI, W_fdivI, W_modI, W_powI, W_cmpI, W_isB_bl, W_isNB, W_isN, W_isntB, W_isntN, W_eqI, W_neI, W_pass, W_brk, W_cont, W_drop, W_rt, W_rtN, W_ifS, W_gsNil, W_gsCons, W_gTup, W_aug, W_call, W_B, RtN_rt, RtN_nx, W_abs, W_intI, W_intB, W_noPart, W_part, W_sl, W_lm, W_lm0, W_iter, W_range1, W_range2, W_forE, W_revE, W_compE, W_yes, W_lenT, W_truB, W_truI, List.append_nil, List.getElem?_cons_zero, List.getElem?_cons_succ, List.set_cons_zero, List.set_cons_succ, List.getElem?_set_self, List.getElem?_set_ne, List.length_set, ne_eq, Nat.reduceEqDiff, not_false_eq_true, Nat.reduceLT, Nat.zero_ne_one, Nat.one_ne_zero, Nat.lt_add_one, Nat.zero_lt_succ, startD, List.map_cons, List.map_nil, List.length_cons, List.length_nil, List.cons_append, List.nil_append, Nat.reduceAdd, Nat.reduceSub, Nat.zero_add, List.replicate_succ, List.replicate_zero, sl, s1, s11, s12, s13, show decide (a + c < mci (a, b, 0) out) = false by simp <;> omega, Bool.false_eq_true, if_false]
      refine mci_law okab ?_
      have o4 : a + c < mci (a, b, 0) (out + 1) := by
        refine o3 _ (by omega) ?_
        have m2 : 0 ≤ out * b := Int.mul_nonneg o0 b0
        rw [emc] at o2
        have : ((931 - 1 : Int).toNat : Int) = 930 := by decide
        omega
      try simp only [W_seq, W_asg, W_set, W_V, WV_some, W_C, W_op, W_cmpT, W_isB, W_un, W_tru, W_andT, W_orT, W_notT, W_andV, W_orV, W_notV, W_ife, W_nil, W_cons, W_tup, W_lst, W_addI, W_subI, W_iaddI, W_negI, W_mulI, W_fdivI, W_modI, W_powI, W_cmpI, W_isB_bl, W_isNB, W_isN, W_isntB, W_isntN, W_eqI, W_neI, W_pass, W_brk, W_cont, W_drop, W_rt, W_rtN, W_ifS, W_gsNil, W_gsCons, W_gTup, W_aug, W_call, W_B, RtN_rt, RtN_nx, W_abs, W_intI, W_intB, W_noPart, W_part, W_sl, W_lm, W_lm0, W_iter, W_range1, W_range2, W_forE, W_revE, W_compE, W_yes, W_lenT, W_truB, W_truI, List.append_nil, List.getElem?_cons_zero, List.getElem?_cons_succ, List.set_cons_zero, List.set_cons_succ, List.getElem?_set_self, List.getElem?_set_ne, List.length_set, ne_eq, Nat.reduceEqDiff, not_false_eq_true, Nat.reduceLT, Nat.zero_ne_one, Nat.one_ne_zero, Nat.lt_add_one, Nat.zero_lt_succ, startD, List.map_cons, List.map_nil, List.length_cons, List.length_nil, List.cons_append, List.nil_append, Nat.reduceAdd, Nat.reduceSub, Nat.zero_add, List.replicate_succ, List.replicate_zero, sl, s1, s11, s12, s13, show decide (mci (a, b, 0) (out + 1) ≤ a + c) = false by simp <;> omega, Bool.false_eq_true, if_false]
      exact q _ _ sl s1 hd
theorem law (ns : List Int) (_ : ns.length ≤ 63) : ∃ h', F_law [.ref 0] [.ro (ns.map D.int)] = some (.bl true, h') := by
  refine W.ex (h := [.ro (ns.map D.int)]) (m := F_law [.ref 0]) ?_
  unfold F_law B_law
  refine w_run rfl ?_
  try simp only [W_seq, W_asg, W_set, W_V, WV_some, W_C, W_op, W_cmpT, W_isB, W_un, W_tru, W_andT, W_orT, W_notT, W_andV, W_orV, W_notV, W_ife, W_nil, W_cons, W_tup, W_lst, W_addI, W_subI, W_iaddI, W_negI, W_mulI, W_fdivI, W_modI, W_powI, W_cmpI, W_isB_bl, W_isNB, W_isN, W_isntB, W_isntN, W_eqI, W_neI, W_pass, W_brk, W_cont, W_drop, W_rt, W_rtN, W_ifS, W_gsNil, W_gsCons, W_gTup, W_aug, W_call, W_B, RtN_rt, RtN_nx, W_abs, W_intI, W_intB, W_noPart, W_part, W_sl, W_lm, W_lm0, W_iter, W_range1, W_range2, W_forE, W_revE, W_compE, W_yes, W_lenT, W_truB, W_truI, List.append_nil, List.getElem?_cons_zero, List.getElem?_cons_succ, List.set_cons_zero, List.set_cons_succ, List.getElem?_set_self, List.getElem?_set_ne, List.length_set, ne_eq, Nat.reduceEqDiff, not_false_eq_true, Nat.reduceLT, Nat.zero_ne_one, Nat.one_ne_zero, Nat.lt_add_one, Nat.zero_lt_succ, startD, List.map_cons, List.map_nil, List.length_cons, List.length_nil, List.cons_append, List.nil_append, Nat.reduceAdd, Nat.reduceSub, Nat.zero_add, List.replicate_succ, List.replicate_zero]
  refine deck_law ns 50 14 (by decide) (by decide) _ fun h hd _ => ?_
  try simp only [W_seq, W_asg, W_set, W_V, WV_some, W_C, W_op, W_cmpT, W_isB, W_un, W_tru, W_andT, W_orT, W_notT, W_andV, W_orV, W_notV, W_ife, W_nil, W_cons, W_tup, W_lst, W_addI, W_subI, W_iaddI, W_negI, W_mulI, W_fdivI, W_modI, W_powI, W_cmpI, W_isB_bl, W_isNB, W_isN, W_isntB, W_isntN, W_eqI, W_neI, W_pass, W_brk, W_cont, W_drop, W_rt, W_rtN, W_ifS, W_gsNil, W_gsCons, W_gTup, W_aug, W_call, W_B, RtN_rt, RtN_nx, W_abs, W_intI, W_intB, W_noPart, W_part, W_sl, W_lm, W_lm0, W_iter, W_range1, W_range2, W_forE, W_revE, W_compE, W_yes, W_lenT, W_truB, W_truI, List.append_nil, List.getElem?_cons_zero, List.getElem?_cons_succ, List.set_cons_zero, List.set_cons_succ, List.getElem?_set_self, List.getElem?_set_ne, List.length_set, ne_eq, Nat.reduceEqDiff, not_false_eq_true, Nat.reduceLT, Nat.zero_ne_one, Nat.one_ne_zero, Nat.lt_add_one, Nat.zero_lt_succ, startD, List.map_cons, List.map_nil, List.length_cons, List.length_nil, List.cons_append, List.nil_append, Nat.reduceAdd, Nat.reduceSub, Nat.zero_add, List.replicate_succ, List.replicate_zero]
  refine ⟨_, rfl, by decide, ?_⟩
  refine w_forR (fun i σ h => σ.length = 18 ∧ σ[1]? = some (some (.ref 1)) ∧ Dk h) ⟨by simp, by simp, hd⟩ ?_ ?_
  · rintro i σ h hi ⟨sl, s1, hd⟩
    unfold Turn
    rw [W_set]
    exact law_2 (by simp [sl]) (by simp [s1]) hd fun σ' h' a b c => ⟨a, b, c⟩
  · rintro σ h ⟨sl, s1, hd⟩
    try simp only [W_seq, W_asg, W_set, W_V, WV_some, W_C, W_op, W_cmpT, W_isB, W_un, W_tru, W_andT, W_orT, W_notT, W_andV, W_orV, W_notV, W_ife, W_nil, W_cons, W_tup, W_lst, W_addI, W_subI, W_iaddI, W_negI, W_mulI, W_fdivI, W_modI, W_powI, W_cmpI, W_isB_bl, W_isNB, W_isN, W_isntB, W_isntN, W_eqI, W_neI, W_pass, W_brk, W_cont, W_drop, W_rt, W_rtN, W_ifS, W_gsNil, W_gsCons, W_gTup, W_aug, W_call, W_B, RtN_rt, RtN_nx, W_abs, W_intI, W_intB, W_noPart, W_part, W_sl, W_lm, W_lm0, W_iter, W_range1, W_range2, W_forE, W_revE, W_compE, W_yes, W_lenT, W_truB, W_truI, List.append_nil, List.getElem?_cons_zero, List.getElem?_cons_succ, List.set_cons_zero, List.set_cons_succ, List.getElem?_set_self, List.getElem?_set_ne, List.length_set, ne_eq, Nat.reduceEqDiff, not_false_eq_true, Nat.reduceLT, Nat.zero_ne_one, Nat.one_ne_zero, Nat.lt_add_one, Nat.zero_lt_succ, startD, List.map_cons, List.map_nil, List.length_cons, List.length_nil, List.cons_append, List.nil_append, Nat.reduceAdd, Nat.reduceSub, Nat.zero_add, List.replicate_succ, List.replicate_zero]
end Lk04

set_option Elab.async false
set_option linter.all false
set_option autoImplicit false
set_option maxRecDepth 100000
set_option maxHeartbeats 4000000
namespace Lk04
open PySem PySem.Spec PyProof.Rows L2 Dt
/-! ### the head -/
def d__law_deck : He.DefD := ⟨("_law_deck", none), "_law_deck", "_law_deck", defArgs (top 11), defBody (top 11), defScope (top 11), [], []⟩
def d__law_plain : He.DefD := ⟨("_law_plain", none), "_law_plain", "_law_plain", defArgs (top 13), defBody (top 13), defScope (top 13), [], []⟩
def d__law_same : He.DefD := ⟨("_law_same", none), "_law_same", "_law_same", defArgs (top 14), defBody (top 14), defScope (top 14), [], []⟩
def d__law_take : He.DefD := ⟨("_law_take", none), "_law_take", "_law_take", defArgs (top 12), defBody (top 12), defScope (top 12), [], []⟩
def d_must_come_in : He.DefD := ⟨("must_come_in", none), "must_come_in", "must_come_in", defArgs (top 7), defBody (top 7), defScope (top 7), [], []⟩
def d_legs : He.DefD := ⟨("legs", none), "legs", "legs", defArgs (top 9), defBody (top 9), defScope (top 9), [], []⟩
def d_may_give : He.DefD := ⟨("may_give", none), "may_give", "may_give", defArgs (top 8), defBody (top 8), defScope (top 8), [], []⟩
def d_law : He.DefD := ⟨("law", none), "law", "law", defArgs (top 15), defBody (top 15), defScope (top 15), [], []⟩
def fn : List He.DefD := [d__law_deck, d__law_plain, d__law_same, d__law_take, d_must_come_in, d_legs, d_may_give, d_law]
def fa_0 : List He.Fa := [.free "range", .free "list", .free "len", .free "int", .free "abs", .free "tuple", .free "isinstance", .free "bool", .free "str", .int "MOST_TOLLS" 20, .int "MOST_AMOUNT" 1000000000000000, .free "reversed", .glo "_law_deck", .glo "_law_plain", .glo "_law_same"]
def fa_1 : List He.Fa := [.glo "_law_take", .glo "must_come_in", .glo "legs", .glo "may_give", .glo "law"]
def fa : List He.Fa := fa_0 ++ (fa_1)
abbrev Tz (K : PySem.W.Frag) (mg : Str → Option Value) : Prop := Tx fa fn K mg
theorem bt_abs : bootBuiltins "abs" = some (.builtin "abs") := by decide +kernel
theorem bt_bool : bootBuiltins "bool" = some (.type "bool") := by decide +kernel
theorem bt_int : bootBuiltins "int" = some (.type "int") := by decide +kernel
theorem bt_len : bootBuiltins "len" = some (.builtin "len") := by decide +kernel
theorem bt_list : bootBuiltins "list" = some (.type "list") := by decide +kernel
theorem bt_str : bootBuiltins "str" = some (.type "str") := by decide +kernel
theorem bt_tuple : bootBuiltins "tuple" = some (.type "tuple") := by decide +kernel
section
variable {P : Program} {w : World} {K : PySem.W.Frag} {mg : Str → Option Value} {base : Heap}
abbrev N__law_deck : List Str := ["script", "cells", "each", "deck", "seed", "k", "cell", "rest", "turn"]
theorem sc__law_deck : FnScope N__law_deck ["script", "cells", "each"] (defScope (top 11)) := ⟨rfl, rfl, rfl, by decide +kernel, rfl, by decide +kernel, by decide +kernel⟩
theorem ok__law_deck (T : Tz K mg) : FnG P w K mg base "_law_deck" 1 3 F__law_deck [] := by
  obtain ⟨fd, FD⟩ := T.def_ 0
  refine ⟨⟨_, fd, _, [], [], fnD FD sc__law_deck fun cdv A outer s H E hr => ?_, T.glo 12, FD.kp, FD.bindsN (ps := ["script", "cells", "each"]) fun _ _ _ _ _ _ us hl => match us, hl with | [_, _, _], _ => rfl, .nil, fun _ _ => RDs.nil⟩, runD_len⟩
  have hu := roomy (X := (cxOf CX0 P w K mg base N__law_deck _ _ _ cdv A outer s H E).nox) hr
  exact (dss_cons (ds_set 3 sc__law_deck.nd (de_lst da_nil))
  (dss_cons (ds_set 4 sc__law_deck.nd (de_op o_add de_int (de_callB c_len (by rfl) (T.free 2) bt_len (da_cons (dv 0) da_nil))))
  (dss_cons (ds_for rfl (di_range1 (by rfl) (T.free 0) (da_cons (dv 1) da_nil)) (dg_name 5 sc__law_deck.nd) (dss_cons (ds_set 6 sc__law_deck.nd (de_if (dt_cmp o_lt (dv 5) (de_callB c_len (by rfl) (T.free 2) bt_len (da_cons (dv 0) da_nil))) (de_callT c_int (by rfl) (T.free 3) bt_int (da_cons (de_ix hu (dv 0) (dv 5)) da_nil)) de_int))
  (dss_cons (ds_set 7 sc__law_deck.nd (de_op o_mul (de_callB c_abs (by rfl) (T.free 4) bt_abs (da_cons (dv 6) da_nil)) (de_callT c_int (by rfl) (T.free 3) bt_int (da_cons (de_cmp o_ge (de_callB c_abs (by rfl) (T.free 4) bt_abs (da_cons (dv 6) da_nil)) (de_op o_pow de_int de_int)) da_nil))))
  (dss_cons (ds_set 4 sc__law_deck.nd (de_op o_mod (de_callT c_int (by rfl) (T.free 3) bt_int (da_cons (de_op o_add (de_op o_add (de_op o_add (de_op o_mul (dv 4) de_int) (de_op o_mul de_int (de_op o_mod (de_callT c_int (by rfl) (T.free 3) bt_int (da_cons (de_callB c_abs (by rfl) (T.free 4) bt_abs (da_cons (dv 6) da_nil)) da_nil)) de_int))) (de_callT c_int (by rfl) (T.free 3) bt_int (da_cons (de_cmp o_lt (dv 6) de_int) da_nil))) (dv 5)) da_nil)) de_int))
  (dss_one (ds_for rfl (di_range1 (by rfl) (T.free 0) (da_cons (dv 2) da_nil)) (dg_name 8 sc__law_deck.nd) (dss_cons (ds_set 4 sc__law_deck.nd (de_op o_mod (de_callT c_int (by rfl) (T.free 3) bt_int (da_cons (de_op o_add (de_op o_add (de_op o_mul (dv 4) de_int) (dv 8)) de_int) da_nil)) de_int))
  (dss_cons (ds_expr (de_append (dv 3) (de_op o_mod (de_callT c_int (by rfl) (T.free 3) bt_int (da_cons (de_ix hu (de_lst (da_cons (de_op o_fdiv (dv 4) de_int) (da_cons (dv 7) da_nil))) (de_callT c_int (by rfl) (T.free 3) bt_int (da_cons (de_cmp o_gt (dv 7) de_int) da_nil))) da_nil)) de_int)))
  (dss_one (ds_set 7 sc__law_deck.nd (de_op o_fdiv (dv 7) de_int)))))))))))
  (dss_cons (ds_expr (de_reverse (dv 3)))
  (dss_one (ds_ret (dv 3)))))))
abbrev N__law_plain : List Str := ["value", "item"]
theorem sc__law_plain : FnScope N__law_plain ["value"] (defScope (top 13)) := ⟨rfl, rfl, rfl, by decide +kernel, rfl, by decide +kernel, by decide +kernel⟩
theorem ok__law_plain_n (T : Tz K mg) : ∀ n : Nat, FnG P w K mg base "_law_plain" (1 + n) 1 (F__law_plain n) []
  | 0 => by
    obtain ⟨fd, FD⟩ := T.def_ 1
    have hl : LenOk 1 (F__law_plain 0) := fun ds h r e => by cases e
    refine ⟨⟨_, fd, _, [], [], (fnD (k := 0) (g := fun _ _ => none) FD sc__law_plain fun cdv A outer s H E hr => ⟨fun _ _ _ _ _ _ h => ?_⟩).imp fun vs H Q E h => ?_, T.glo 13, FD.kp, FD.bindsN (ps := ["value"]) fun _ _ _ _ _ _ us hl => match us, hl with | [_], _ => rfl, .nil, fun _ _ => RDs.nil⟩, hl⟩
    · obtain ⟨_, _, _, _, _, _, e, _⟩ := h
      cases e
    · obtain ⟨_, _, _, _, _, _, _, _, e, _⟩ := h
      cases e
  | n + 1 => by
    have ih := ok__law_plain_n T n
    obtain ⟨fd, FD⟩ := T.def_ 1
    refine ⟨⟨_, fd, _, [], [], fnD (k := 1 + n) FD sc__law_plain fun cdv A outer s H E hr => ?_, T.glo 13, FD.kp, FD.bindsN (ps := ["value"]) fun _ _ _ _ _ _ us hl => match us, hl with | [_], _ => rfl, .nil, fun _ _ => RDs.nil⟩, runD_len⟩
    have hu := roomy (X := (cxOf CX0 P w K mg base N__law_plain _ _ _ cdv A outer s H E).nox) hr
    exact (dss_cons (ds_if (dt_val (de_isi (by rfl) (T.free 6) (dv 0) (DTys.cons (dty (by rfl) (T.free 5) bt_tuple) (DTys.cons (dty (by rfl) (T.free 1) bt_list) DTys.nil rfl) rfl))) (dss_one (ds_ret (de_op o_add (de_lst (da_cons (de_isi1 (by rfl) (T.free 6) (dv 0) (dty (by rfl) (T.free 1) bt_list)) da_nil)) (de_comp rfl sc__law_plain.nd (di_seq (dv 0)) (own := [("item", 1)]) (blkOk_by (N := N__law_plain) (sc := defScope (top 13)) (by decide +kernel)) (ow := [1]) (by decide) (fun _ _ _ _ _ => (dg_name 1 sc__law_plain.nd)) (fun _ _ _ _ _ => dts_nil) (fun _ _ _ _ _ => (cg (hk := Nat.le_refl _) ih hr (da_cons (dv 1) da_nil)))))))
  dss_nil)
  (dss_cons (ds_if (dt_w (dw_or (dt_cmp o_is (dv 0) de_non) (dw_or1 (dt_val (de_isi1 (by rfl) (T.free 6) (dv 0) (dty (by rfl) (T.free 7) bt_bool)))))) (dss_one (ds_ret (de_ix hu (de_lst (da_cons de_str (da_cons de_str (da_cons de_str da_nil)))) (de_op o_add (de_callT c_int (by rfl) (T.free 3) bt_int (da_cons (de_cmp o_isnt (dv 0) de_non) da_nil)) (de_callT c_int (by rfl) (T.free 3) bt_int (da_cons (de_cmp o_is (dv 0) de_bl) da_nil))))))
  dss_nil)
  (dss_one (ds_ret (de_if (dt_val (de_isi (by rfl) (T.free 6) (dv 0) (DTys.cons (dty (by rfl) (T.free 3) bt_int) (DTys.cons (dty (by rfl) (T.free 8) bt_str) DTys.nil rfl) rfl))) (de_lst (da_cons (de_isi1 (by rfl) (T.free 6) (dv 0) (dty (by rfl) (T.free 8) bt_str)) (da_cons (dv 0) da_nil))) de_str)))))
theorem ok__law_plain (T : Tz K mg) : FnG P w K mg base "_law_plain" 13 1 (F__law_plain 12) [] := ok__law_plain_n T 12
abbrev N__law_same : List Str := ["told", "due"]
theorem sc__law_same : FnScope N__law_same ["told", "due"] (defScope (top 14)) := ⟨rfl, rfl, rfl, by decide +kernel, rfl, by decide +kernel, by decide +kernel⟩
theorem ok__law_same (T : Tz K mg) : FnG P w K mg base "_law_same" 14 2 F__law_same [] := by
  obtain ⟨fd, FD⟩ := T.def_ 2
  refine ⟨⟨_, fd, _, [], [], fnD FD sc__law_same fun cdv A outer s H E hr => ?_, T.glo 14, FD.kp, FD.bindsN (ps := ["told", "due"]) fun _ _ _ _ _ _ us hl => match us, hl with | [_, _], _ => rfl, .nil, fun _ _ => RDs.nil⟩, runD_len⟩
  have hu := roomy (X := (cxOf CX0 P w K mg base N__law_same _ _ _ cdv A outer s H E).nox) hr
  exact (dss_one (ds_ret (de_cmp (o_eq hu) (cg (ok__law_plain T) hr (da_cons (dv 0) da_nil)) (cg (ok__law_plain T) hr (da_cons (dv 1) da_nil)))))
abbrev N__law_take : List Str := ["deck", "many"]
theorem sc__law_take : FnScope N__law_take ["deck", "many"] (defScope (top 12)) := ⟨rfl, rfl, rfl, by decide +kernel, rfl, by decide +kernel, by decide +kernel⟩
theorem ok__law_take (T : Tz K mg) : FnG P w K mg base "_law_take" 1 2 F__law_take [] := by
  obtain ⟨fd, FD⟩ := T.def_ 3
  refine ⟨⟨_, fd, _, [], [], fnD FD sc__law_take fun cdv A outer s H E hr => ?_, T.glo 15, FD.kp, FD.bindsN (ps := ["deck", "many"]) fun _ _ _ _ _ _ us hl => match us, hl with | [_, _], _ => rfl, .nil, fun _ _ => RDs.nil⟩, runD_len⟩
  have hu := roomy (X := (cxOf CX0 P w K mg base N__law_take _ _ _ cdv A outer s H E).nox) hr
  exact (dss_one (ds_ret (de_if (dt_cmp o_gt (de_callB c_len (by rfl) (T.free 2) bt_len (da_cons (dv 0) da_nil)) de_int) (de_op o_mod (de_callT c_int (by rfl) (T.free 3) bt_int (da_cons (de_pop (dv 0)) da_nil)) (dv 1)) de_int)))
abbrev N_must_come_in : List Str := ["toll", "amount"]
theorem sc_must_come_in : FnScope N_must_come_in ["toll", "amount"] (defScope (top 7)) := ⟨rfl, rfl, rfl, by decide +kernel, rfl, by decide +kernel, by decide +kernel⟩
theorem ok_must_come_in (T : Tz K mg) : FnG P w K mg base "must_come_in" 1 2 F_must_come_in [] := by
  obtain ⟨fd, FD⟩ := T.def_ 4
  refine ⟨⟨_, fd, _, [], [], fnD FD sc_must_come_in fun cdv A outer s H E hr => ?_, T.glo 16, FD.kp, FD.bindsN (ps := ["toll", "amount"]) fun _ _ _ _ _ _ us hl => match us, hl with | [_, _], _ => rfl, .nil, fun _ _ => RDs.nil⟩, runD_len⟩
  have hu := roomy (X := (cxOf CX0 P w K mg base N_must_come_in _ _ _ cdv A outer s H E).nox) hr
  exact (dss_one (ds_ret (de_op o_add (de_op o_add (dv 1) (de_ix hu (dv 0) de_int)) (de_op o_fdiv (de_op o_add (de_op o_mul (dv 1) (de_ix hu (dv 0) de_int)) de_int) de_int))))
abbrev N_legs : List Str := ["amount", "deadline", "tolls", "rows", "toll"]
theorem sc_legs : FnScope N_legs ["amount", "deadline", "tolls"] (defScope (top 9)) := ⟨rfl, rfl, rfl, by decide +kernel, rfl, by decide +kernel, by decide +kernel⟩
theorem ok_legs (T : Tz K mg) : FnG P w K mg base "legs" 2 3 F_legs [] := by
  obtain ⟨fd, FD⟩ := T.def_ 5
  refine ⟨⟨_, fd, _, [], [], fnD FD sc_legs fun cdv A outer s H E hr => ?_, T.glo 17, FD.kp, FD.bindsN (ps := ["amount", "deadline", "tolls"]) fun _ _ _ _ _ _ us hl => match us, hl with | [_, _, _], _ => rfl, .nil, fun _ _ => RDs.nil⟩, runD_len⟩
  have hu := roomy (X := (cxOf CX0 P w K mg base N_legs _ _ _ cdv A outer s H E).nox) hr
  exact (dss_cons (ds_if (dt_cmp o_gt (de_callB c_len (by rfl) (T.free 2) bt_len (da_cons (dv 2) da_nil)) (de_gint (by rfl) (T.int 9))) (dss_one ds_bad)
  dss_nil)
  (dss_cons (ds_if (dt_cmp o_gt (dv 0) (de_gint (by rfl) (T.int 10))) (dss_one ds_bad)
  dss_nil)
  (dss_cons (ds_set 3 sc_legs.nd (de_lst (da_cons (de_tup (da_cons (dv 0) (da_cons (dv 1) da_nil))) da_nil)))
  (dss_cons (ds_for rfl (di_rev (by rfl) (T.free 11) (da_cons (dv 2) da_nil)) (dg_name 4 sc_legs.nd) (dss_cons (ds_set 0 sc_legs.nd (cg (ok_must_come_in T) hr (da_cons (dv 4) (da_cons (dv 0) da_nil))))
  (dss_cons (ds_set 1 sc_legs.nd (de_op o_add (dv 1) (de_ix hu (dv 4) de_int)))
  (dss_cons (ds_if (dt_cmp o_gt (dv 0) (de_gint (by rfl) (T.int 10))) (dss_one ds_bad)
  dss_nil)
  (dss_one (ds_expr (de_append (dv 3) (de_tup (da_cons (dv 0) (da_cons (dv 1) da_nil))))))))))
  (dss_one (ds_ret (de_revL (dv 3))))))))
abbrev N_may_give : List Str := ["toll", "height", "inner", "outer"]
theorem sc_may_give : FnScope N_may_give ["toll", "height", "inner", "outer"] (defScope (top 8)) := ⟨rfl, rfl, rfl, by decide +kernel, rfl, by decide +kernel, by decide +kernel⟩
theorem ok_may_give (T : Tz K mg) : FnG P w K mg base "may_give" 2 4 F_may_give [] := by
  obtain ⟨fd, FD⟩ := T.def_ 6
  refine ⟨⟨_, fd, _, [], [], fnD FD sc_may_give fun cdv A outer s H E hr => ?_, T.glo 18, FD.kp, FD.bindsN (ps := ["toll", "height", "inner", "outer"]) fun _ _ _ _ _ _ us hl => match us, hl with | [_, _, _, _], _ => rfl, .nil, fun _ _ => RDs.nil⟩, runD_len⟩
  have hu := roomy (X := (cxOf CX0 P w K mg base N_may_give _ _ _ cdv A outer s H E).nox) hr
  exact (dss_cons (ds_if (dt_w (dw_or (dt_cmp (o_ne hu) (de_ix hu (dv 2) de_int) (de_ix hu (dv 3) de_int)) (dw_or1 (dt_cmp o_lt (de_ix hu (dv 3) de_int) de_int)))) (dss_one (ds_ret de_bl))
  dss_nil)
  (dss_cons (ds_if (dt_cmp o_lt (de_ix hu (dv 2) de_int) (cg (ok_must_come_in T) hr (da_cons (dv 0) (da_cons (de_ix hu (dv 3) de_int) da_nil)))) (dss_one (ds_ret de_bl))
  dss_nil)
  (dss_one (ds_ret (de_and (de_cmp o_ge (de_ix hu (dv 2) de_int) (de_op o_add (de_ix hu (dv 3) de_int) (de_ix hu (dv 0) de_int))) (de_and1 (de_cmp o_gt (de_ix hu (dv 3) de_int) (dv 1))))))))
abbrev N_law : List Str := ["script", "deck", "turn", "tolls", "amount", "deadline", "whole", "cut", "second", "first", "k", "toll", "came", "out", "more", "inner", "outer", "height"]
theorem sc_law : FnScope N_law ["script"] (defScope (top 15)) := ⟨rfl, rfl, rfl, by decide +kernel, rfl, by decide +kernel, by decide +kernel⟩
theorem ok_law (T : Tz K mg) : FnG P w K mg base "law" 15 1 F_law [] := by
  obtain ⟨fd, FD⟩ := T.def_ 7
  refine ⟨⟨_, fd, _, [], [], fnD FD sc_law fun cdv A outer s H E hr => ?_, T.glo 19, FD.kp, FD.bindsN (ps := ["script"]) fun _ _ _ _ _ _ us hl => match us, hl with | [_], _ => rfl, .nil, fun _ _ => RDs.nil⟩, runD_len⟩
  have hu := roomy (X := (cxOf CX0 P w K mg base N_law _ _ _ cdv A outer s H E).nox) hr
  exact (dss_cons (ds_set 1 sc_law.nd (cg (ok__law_deck T) hr (da_cons (dv 0) (da_cons de_int (da_cons de_int da_nil)))))
  (dss_cons (ds_for rfl (di_range1 (by rfl) (T.free 0) (da_cons de_int da_nil)) (dg_name 2 sc_law.nd) (dss_cons (ds_setComp 3 rfl sc_law.nd (by exact sw_true rfl rfl rfl (by decide +kernel)) (di_range1 (by rfl) (T.free 0) (da_cons (cg (ok__law_take T) hr (da_cons (dv 1) (da_cons de_int da_nil))) da_nil)) (own := [("k", 10)]) (blkOk_by (N := N_law) (sc := defScope (top 15)) (by decide +kernel)) (ow := [10]) (by decide) (fun _ _ _ _ _ => (dg_name 10 sc_law.nd)) (fun _ _ _ _ _ => dts_nil) (fun _ _ _ _ _ => (de_tup (da_cons (cg (ok__law_take T) hr (da_cons (dv 1) (da_cons de_int da_nil))) (da_cons (cg (ok__law_take T) hr (da_cons (dv 1) (da_cons de_int da_nil))) (da_cons (cg (ok__law_take T) hr (da_cons (dv 1) (da_cons de_int da_nil))) da_nil))))))
  (dss_cons (ds_set 4 sc_law.nd (de_op o_add de_int (cg (ok__law_take T) hr (da_cons (dv 1) (da_cons de_int da_nil)))))
  (dss_cons (ds_set 5 sc_law.nd (de_op o_add de_int (cg (ok__law_take T) hr (da_cons (dv 1) (da_cons de_int da_nil)))))
  (dss_cons (ds_set 6 sc_law.nd (cg (ok_legs T) hr (da_cons (dv 4) (da_cons (dv 5) (da_cons (de_callT c_list (by rfl) (T.free 1) bt_list (da_cons (dv 3) da_nil)) da_nil)))))
  (dss_cons (ds_set 7 sc_law.nd (cg (ok__law_take T) hr (da_cons (dv 1) (da_cons (de_op o_add (de_callB c_len (by rfl) (T.free 2) bt_len (da_cons (dv 3) da_nil)) de_int) da_nil))))
  (dss_cons (ds_set 8 sc_law.nd (cg (ok_legs T) hr (da_cons (dv 4) (da_cons (dv 5) (da_cons (de_slice (dv 3) (do_some (dv 7)) do_none) da_nil)))))
  (dss_cons (ds_set 9 sc_law.nd (cg (ok_legs T) hr (da_cons (de_ix hu (de_ix hu (dv 8) de_int) de_int) (da_cons (de_ix hu (de_ix hu (dv 8) de_int) de_int) (da_cons (de_slice (dv 3) do_none (do_some (dv 7))) da_nil)))))
  (dss_cons (ds_if (dt_w (dw_or (dt_not (dt_val (cg (ok__law_same T) hr (da_cons (dv 6) (da_cons (de_op o_add (de_slice (dv 9) do_none (do_some (de_un o_neg de_int))) (dv 8)) da_nil))))) (dw_or (dt_cmp (o_ne hu) (de_callB c_len (by rfl) (T.free 2) bt_len (da_cons (dv 6) da_nil)) (de_op o_add (de_callB c_len (by rfl) (T.free 2) bt_len (da_cons (dv 3) da_nil)) de_int)) (dw_or1 (dt_cmp (o_ne hu) (de_ix hu (dv 6) (de_callB c_len (by rfl) (T.free 2) bt_len (da_cons (dv 3) da_nil))) (de_tup (da_cons (dv 4) (da_cons (dv 5) da_nil)))))))) (dss_one (ds_ret de_bl))
  dss_nil)
  (dss_cons (ds_for rfl (di_range1 (by rfl) (T.free 0) (da_cons (de_callB c_len (by rfl) (T.free 2) bt_len (da_cons (dv 3) da_nil)) da_nil)) (dg_name 10 sc_law.nd) (dss_cons (ds_set 15 sc_law.nd (de_tup (da_cons de_int (da_cons (de_ix hu (de_ix hu (dv 6) (dv 10)) de_int) (da_cons (de_ix hu (de_ix hu (dv 6) (dv 10)) de_int) (da_cons de_bl da_nil))))))
  (dss_cons (ds_set 16 sc_law.nd (de_tup (da_cons de_int (da_cons (de_ix hu (de_ix hu (dv 6) (de_op o_add (dv 10) de_int)) de_int) (da_cons (de_ix hu (de_ix hu (dv 6) (de_op o_add (dv 10) de_int)) de_int) (da_cons de_bl da_nil))))))
  (dss_cons (ds_set 17 sc_law.nd (cg (ok__law_take T) hr (da_cons (dv 1) (da_cons (de_ix hu (dv 16) de_int) da_nil))))
  (dss_cons (ds_if (dt_w (dw_or (dt_cmp o_isnt (cg (ok_may_give T) hr (da_cons (de_ix hu (dv 3) (dv 10)) (da_cons (dv 17) (da_cons (dv 15) (da_cons (dv 16) da_nil))))) de_bl) (dw_or1 (dt_cmp o_isnt (cg (ok_may_give T) hr (da_cons (de_ix hu (dv 3) (dv 10)) (da_cons (de_ix hu (dv 16) de_int) (da_cons (dv 15) (da_cons (dv 16) da_nil))))) de_bl)))) (dss_one (ds_ret de_bl))
  dss_nil)
  (dss_cons (ds_if (dt_cmp o_isnt (cg (ok_may_give T) hr (da_cons (de_ix hu (dv 3) (dv 10)) (da_cons (dv 17) (da_cons (de_tup (da_cons de_int (da_cons (de_op o_sub (de_ix hu (dv 15) de_int) de_int) (da_cons (de_ix hu (dv 15) de_int) (da_cons de_bl da_nil))))) (da_cons (dv 16) da_nil))))) de_bl) (dss_one (ds_ret de_bl))
  dss_nil)
  (dss_one (ds_if (dt_cmp o_isnt (cg (ok_may_give T) hr (da_cons (de_ix hu (dv 3) (dv 10)) (da_cons (dv 17) (da_cons (de_tup (da_cons de_int (da_cons (de_ix hu (dv 15) de_int) (da_cons (de_op o_sub (de_ix hu (dv 15) de_int) de_int) (da_cons de_bl da_nil))))) (da_cons (dv 16) da_nil))))) de_bl) (dss_one (ds_ret de_bl))
  dss_nil))))))))
  (dss_cons (ds_set 11 sc_law.nd (de_tup (da_cons (cg (ok__law_take T) hr (da_cons (dv 1) (da_cons de_int da_nil))) (da_cons (cg (ok__law_take T) hr (da_cons (dv 1) (da_cons de_int da_nil))) (da_cons de_int da_nil)))))
  (dss_cons (ds_set 12 sc_law.nd (de_op o_add (de_ix hu (dv 11) de_int) (cg (ok__law_take T) hr (da_cons (dv 1) (da_cons de_int da_nil)))))
  (dss_cons (ds_set 13 sc_law.nd de_int)
  (dss_cons (ds_for rfl (di_range2 (by rfl) (T.free 0) (da_cons de_int (da_cons de_int da_nil))) (dg_name 14 sc_law.nd) (dss_cons (ds_set 13 sc_law.nd (de_if (dt_cmp o_le (cg (ok_must_come_in T) hr (da_cons (dv 11) (da_cons (dv 14) da_nil))) (dv 12)) (dv 14) (dv 13)))
  (dss_one (ds_if (dt_w (dw_or (dt_cmp o_le (cg (ok_must_come_in T) hr (da_cons (dv 11) (da_cons (dv 14) da_nil))) (cg (ok_must_come_in T) hr (da_cons (dv 11) (da_cons (de_op o_sub (dv 14) de_int) da_nil)))) (dw_or1 (dt_cmp (o_ne hu) (cg (ok_must_come_in T) hr (da_cons (dv 11) (da_cons (dv 14) da_nil))) (de_op o_sub (de_op o_add (dv 14) (de_ix hu (dv 11) de_int)) (de_op o_fdiv (de_op o_mul (de_un o_neg (dv 14)) (de_ix hu (dv 11) de_int)) de_int)))))) (dss_one (ds_ret de_bl))
  dss_nil))))
  (dss_one (ds_if (dt_w (dw_or (dt_cmp o_gt (cg (ok_must_come_in T) hr (da_cons (dv 11) (da_cons (dv 13) da_nil))) (dv 12)) (dw_or1 (dt_cmp o_le (cg (ok_must_come_in T) hr (da_cons (dv 11) (da_cons (de_op o_add (dv 13) de_int) da_nil))) (dv 12))))) (dss_one (ds_ret de_bl))
  dss_nil))))))))))))))))
  (dss_one (ds_ret de_bl))))
end
abbrev R : PySem.W.OpenRow := PySem.W.OpenLaw.row PySem.Challenge.rw_turnpike_k04_whole_tolls_one_behind_anot
abbrev hk : PySem.W.Hook := He.hookD 5 fa fn
def ob (s : PySem.W.SharedT) : He.AlD := He.obsDG 5 fa fn (HandSHeadRun.getT s)
theorem ob_eq (s : PySem.W.SharedT) : ob s = hk.obs s.abs := He.obsDG_eq (HandSHeadRun.getT_eq s)
def loose : List PySem.Str := ["TurnpikeError", "OutOfBounds", "TooMuchMoney", "MOST_TOLLS", "MOST_AMOUNT", "must_come_in", "may_give", "legs", "_law_deck", "_law_take", "_law_plain", "_law_same"]
set_option maxHeartbeats 0 in
theorem run (w : World) : HandSHeadRun.RunEq R (PySem.W.view R.prog [15]) hk ob 20000 loose w := by
  intro os
  kernel_rfl
end Lk04
namespace Lk04
open PySem PySem.Spec PyProof.Rows L2 Dt
theorem okLaw {P : Program} {w : World} {K : PySem.W.Frag} {mg : Str → Option Value} {base : Heap} {f : Addr} {fd : FuncData} (FD : FunD K "law" "law" (defArgs (top 15)) (defBody (top 15)) (defScope (top 15)) [] [] f fd) (T : Tz K mg) : FnOk P w K mg base CX0 15 f fd ["script"] (spD K 1 F_law) := by
  refine fnD FD sc_law fun cdv A outer s H E hr => ?_
  have hu := roomy (X := (cxOf CX0 P w K mg base N_law _ _ _ cdv A outer s H E).nox) hr
  exact (dss_cons (ds_set 1 sc_law.nd (cg (ok__law_deck T) hr (da_cons (dv 0) (da_cons de_int (da_cons de_int da_nil)))))
  (dss_cons (ds_for rfl (di_range1 (by rfl) (T.free 0) (da_cons de_int da_nil)) (dg_name 2 sc_law.nd) (dss_cons (ds_setComp 3 rfl sc_law.nd (by exact sw_true rfl rfl rfl (by decide +kernel)) (di_range1 (by rfl) (T.free 0) (da_cons (cg (ok__law_take T) hr (da_cons (dv 1) (da_cons de_int da_nil))) da_nil)) (own := [("k", 10)]) (blkOk_by (N := N_law) (sc := defScope (top 15)) (by decide +kernel)) (ow := [10]) (by decide) (fun _ _ _ _ _ => (dg_name 10 sc_law.nd)) (fun _ _ _ _ _ => dts_nil) (fun _ _ _ _ _ => (de_tup (da_cons (cg (ok__law_take T) hr (da_cons (dv 1) (da_cons de_int da_nil))) (da_cons (cg (ok__law_take T) hr (da_cons (dv 1) (da_cons de_int da_nil))) (da_cons (cg (ok__law_take T) hr (da_cons (dv 1) (da_cons de_int da_nil))) da_nil))))))
  (dss_cons (ds_set 4 sc_law.nd (de_op o_add de_int (cg (ok__law_take T) hr (da_cons (dv 1) (da_cons de_int da_nil)))))
  (dss_cons (ds_set 5 sc_law.nd (de_op o_add de_int (cg (ok__law_take T) hr (da_cons (dv 1) (da_cons de_int da_nil)))))
  (dss_cons (ds_set 6 sc_law.nd (cg (ok_legs T) hr (da_cons (dv 4) (da_cons (dv 5) (da_cons (de_callT c_list (by rfl) (T.free 1) bt_list (da_cons (dv 3) da_nil)) da_nil)))))
  (dss_cons (ds_set 7 sc_law.nd (cg (ok__law_take T) hr (da_cons (dv 1) (da_cons (de_op o_add (de_callB c_len (by rfl) (T.free 2) bt_len (da_cons (dv 3) da_nil)) de_int) da_nil))))
  (dss_cons (ds_set 8 sc_law.nd (cg (ok_legs T) hr (da_cons (dv 4) (da_cons (dv 5) (da_cons (de_slice (dv 3) (do_some (dv 7)) do_none) da_nil)))))
  (dss_cons (ds_set 9 sc_law.nd (cg (ok_legs T) hr (da_cons (de_ix hu (de_ix hu (dv 8) de_int) de_int) (da_cons (de_ix hu (de_ix hu (dv 8) de_int) de_int) (da_cons (de_slice (dv 3) do_none (do_some (dv 7))) da_nil)))))
  (dss_cons (ds_if (dt_w (dw_or (dt_not (dt_val (cg (ok__law_same T) hr (da_cons (dv 6) (da_cons (de_op o_add (de_slice (dv 9) do_none (do_some (de_un o_neg de_int))) (dv 8)) da_nil))))) (dw_or (dt_cmp (o_ne hu) (de_callB c_len (by rfl) (T.free 2) bt_len (da_cons (dv 6) da_nil)) (de_op o_add (de_callB c_len (by rfl) (T.free 2) bt_len (da_cons (dv 3) da_nil)) de_int)) (dw_or1 (dt_cmp (o_ne hu) (de_ix hu (dv 6) (de_callB c_len (by rfl) (T.free 2) bt_len (da_cons (dv 3) da_nil))) (de_tup (da_cons (dv 4) (da_cons (dv 5) da_nil)))))))) (dss_one (ds_ret de_bl))
  dss_nil)
  (dss_cons (ds_for rfl (di_range1 (by rfl) (T.free 0) (da_cons (de_callB c_len (by rfl) (T.free 2) bt_len (da_cons (dv 3) da_nil)) da_nil)) (dg_name 10 sc_law.nd) (dss_cons (ds_set 15 sc_law.nd (de_tup (da_cons de_int (da_cons (de_ix hu (de_ix hu (dv 6) (dv 10)) de_int) (da_cons (de_ix hu (de_ix hu (dv 6) (dv 10)) de_int) (da_cons de_bl da_nil))))))
  (dss_cons (ds_set 16 sc_law.nd (de_tup (da_cons de_int (da_cons (de_ix hu (de_ix hu (dv 6) (de_op o_add (dv 10) de_int)) de_int) (da_cons (de_ix hu (de_ix hu (dv 6) (de_op o_add (dv 10) de_int)) de_int) (da_cons de_bl da_nil))))))
  (dss_cons (ds_set 17 sc_law.nd (cg (ok__law_take T) hr (da_cons (dv 1) (da_cons (de_ix hu (dv 16) de_int) da_nil))))
  (dss_cons (ds_if (dt_w (dw_or (dt_cmp o_isnt (cg (ok_may_give T) hr (da_cons (de_ix hu (dv 3) (dv 10)) (da_cons (dv 17) (da_cons (dv 15) (da_cons (dv 16) da_nil))))) de_bl) (dw_or1 (dt_cmp o_isnt (cg (ok_may_give T) hr (da_cons (de_ix hu (dv 3) (dv 10)) (da_cons (de_ix hu (dv 16) de_int) (da_cons (dv 15) (da_cons (dv 16) da_nil))))) de_bl)))) (dss_one (ds_ret de_bl))
  dss_nil)
  (dss_cons (ds_if (dt_cmp o_isnt (cg (ok_may_give T) hr (da_cons (de_ix hu (dv 3) (dv 10)) (da_cons (dv 17) (da_cons (de_tup (da_cons de_int (da_cons (de_op o_sub (de_ix hu (dv 15) de_int) de_int) (da_cons (de_ix hu (dv 15) de_int) (da_cons de_bl da_nil))))) (da_cons (dv 16) da_nil))))) de_bl) (dss_one (ds_ret de_bl))
  dss_nil)
  (dss_one (ds_if (dt_cmp o_isnt (cg (ok_may_give T) hr (da_cons (de_ix hu (dv 3) (dv 10)) (da_cons (dv 17) (da_cons (de_tup (da_cons de_int (da_cons (de_ix hu (dv 15) de_int) (da_cons (de_op o_sub (de_ix hu (dv 15) de_int) de_int) (da_cons de_bl da_nil))))) (da_cons (dv 16) da_nil))))) de_bl) (dss_one (ds_ret de_bl))
  dss_nil))))))))
  (dss_cons (ds_set 11 sc_law.nd (de_tup (da_cons (cg (ok__law_take T) hr (da_cons (dv 1) (da_cons de_int da_nil))) (da_cons (cg (ok__law_take T) hr (da_cons (dv 1) (da_cons de_int da_nil))) (da_cons de_int da_nil)))))
  (dss_cons (ds_set 12 sc_law.nd (de_op o_add (de_ix hu (dv 11) de_int) (cg (ok__law_take T) hr (da_cons (dv 1) (da_cons de_int da_nil)))))
  (dss_cons (ds_set 13 sc_law.nd de_int)
  (dss_cons (ds_for rfl (di_range2 (by rfl) (T.free 0) (da_cons de_int (da_cons de_int da_nil))) (dg_name 14 sc_law.nd) (dss_cons (ds_set 13 sc_law.nd (de_if (dt_cmp o_le (cg (ok_must_come_in T) hr (da_cons (dv 11) (da_cons (dv 14) da_nil))) (dv 12)) (dv 14) (dv 13)))
  (dss_one (ds_if (dt_w (dw_or (dt_cmp o_le (cg (ok_must_come_in T) hr (da_cons (dv 11) (da_cons (dv 14) da_nil))) (cg (ok_must_come_in T) hr (da_cons (dv 11) (da_cons (de_op o_sub (dv 14) de_int) da_nil)))) (dw_or1 (dt_cmp (o_ne hu) (cg (ok_must_come_in T) hr (da_cons (dv 11) (da_cons (dv 14) da_nil))) (de_op o_sub (de_op o_add (dv 14) (de_ix hu (dv 11) de_int)) (de_op o_fdiv (de_op o_mul (de_un o_neg (dv 14)) (de_ix hu (dv 11) de_int)) de_int)))))) (dss_one (ds_ret de_bl))
  dss_nil))))
  (dss_one (ds_if (dt_w (dw_or (dt_cmp o_gt (cg (ok_must_come_in T) hr (da_cons (dv 11) (da_cons (dv 13) da_nil))) (dv 12)) (dw_or1 (dt_cmp o_le (cg (ok_must_come_in T) hr (da_cons (dv 11) (da_cons (de_op o_add (dv 13) de_int) da_nil))) (dv 12))))) (dss_one (ds_ret de_bl))
  dss_nil))))))))))))))))
  (dss_one (ds_ret de_bl))))
end Lk04

set_option Elab.async false
set_option linter.all false
set_option maxRecDepth 100000
set_option maxHeartbeats 0
open PySem PySem.W PySem.Calls PyProof.Rows
theorem Lk04.fin (law : ∀ ns : List Int, ns.length ≤ 63 → ∃ h', Lk04.F_law [.ref 0] [.ro (ns.map Dt.D.int)] = some (.bl true, h')) : PySem.Challenge.rw_turnpike_k04_whole_tolls_one_behind_anot.Holds := by
  w_on; o_law
  refine HandSHeadRun.head_any (r := OpenLaw.row PySem.Challenge.rw_turnpike_k04_whole_tolls_one_behind_anot) (q := view (OpenLaw.row PySem.Challenge.rw_turnpike_k04_whole_tolls_one_behind_anot).prog [15]) (H := Lk04.hk) (ob := Lk04.ob) (M := 20000) (loose := Lk04.loose) (d := HandSHeadRun.topDef (OpenLaw.row PySem.Challenge.rw_turnpike_k04_whole_tolls_one_behind_anot).prog 15) (kwd := []) Lk04.ob_eq
    (by kernel_rfl) (fun s => by kernel_rfl) Lk04.run (by kernel_rfl) (by kernel_rfl) (by kernel_rfl) (by rfl) (by first | assumption | decide +kernel) (by decide +kernel) ⟨rfl, rfl, rfl, rfl, rfl, by decide +kernel⟩ ?hw ?hc
  case hw => w_witness2
  case hc =>
    refine L2.walk_ofE (l := PySem.Challenge.rw_turnpike_k04_whole_tolls_one_behind_anot) (n := 63) (k := 15) (x := "script") (CX := L2.CX0) rfl (by decide) (by kernel_rfl) ⟨rfl, by decide, by decide⟩ ?F (fun _ _ _ _ z => z)
    intro w mg fa h Y G hmg0
    obtain ⟨K, KX, c⟩ := Y
    have hmg : mg ("law" : PySem.Str) = some (.ref fa) := by
      have e : (HandSHeadRun.topDef (OpenLaw.row PySem.Challenge.rw_turnpike_k04_whole_tolls_one_behind_anot).prog 15).name = ("law" : PySem.Str) := by kernel_rfl
      rw [← e]
      exact hmg0
    have T : Lk04.Tz K mg := ⟨⟨h, KX, G⟩, c⟩
    obtain ⟨fd, FD⟩ := T.def_ 7
    have e := hmg.symm.trans (T.glo 19)
    cases e
    have b := L2.FunD.bindsA (ps := ["script"]) FD fun _ _ _ _ _ _ us hl => match us, hl with | [_], _ => rfl
    refine ⟨K, fd, Dt.spD K 1 Lk04.F_law, KX, fun s v => b s [v] rfl, fun H a ns hl hO hS => Dt.law_end law H a ns hl hO hS, fun base KX2 G2 => ?_⟩
    exact Lk04.okLaw FD T
theorem PySem.Challenge.cw_turnpike_k04_whole_tolls_one_behind_anot_holds : PySem.Challenge.rw_turnpike_k04_whole_tolls_one_behind_anot.Holds := by
  exact Lk04.fin Lk04.law
